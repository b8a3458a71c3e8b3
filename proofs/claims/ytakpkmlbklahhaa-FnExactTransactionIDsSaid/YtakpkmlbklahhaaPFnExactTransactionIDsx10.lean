-- Printed by a program of mine (wip/myprint.py), which runs the printer of the kit with contracts of mine beside it.
import Derived.Test.YtakpkmlbklahhaaPFnExactTransactionIDsx0
import Derived.Test.YtakpkmlbklahhaaPFnExactTransactionIDsx1
import Derived.Test.YtakpkmlbklahhaaPFnExactTransactionIDsx3
import Derived.Test.YtakpkmlbklahhaaPFnExactTransactionIDsx7
import Derived.Test.YtakpkmlbklahhaaPFnExactTransactionIDsx8
import Derived.Test.YtakpkmlbklahhaaPFnExactTransactionIDsx9
namespace Go.Proofs.Ytakpkmlbklahhaa.PFnExactTransactionIDs
open Go.RowKit Go.Proofs.YtakpkmlbklahhaaW.PrintWords Go.Proofs.YtakpkmlbklahhaaW.PrintLast Go.Proofs.YtakpkmlbklahhaaW.PrintMore
attribute [local go_sem] max2_int min2_int max_two min_two max_three min_three max_four min_four   -- for this text's walks alone
set_option linter.unusedVariables false
set_option linter.unusedSimpArgs false

/-! ### laws_FnExactTransactionIDs: function 12 -/
def laws_FnExactTransactionIDs.j0 : Nat → Int → List Int → List Int → Bool → Bool → List (List (S207)) → List (S60) → List (S160) → List (S183) → Int → Option (Bool)
 | 0, _, _, _, _, _, _, _, _, _, _ => none
 | k + 1, x1, x6, x8, x46, x304000, x304001, x304002, x304003, x304004, x304005 => if x46 = true then (some false) else ((laws_markIntS.f k x8 1).bind fun bt358 => ((laws_heldIntS.f k bt358.2 1).bind fun t360 => (if t360 < 0 then (some false) else (if t360 = bt358.1 then ((laws_toEngine.f k x304000 x304001 x304002 x304003 x304004 x304005).bind fun bt361 => ((impl_TransactionIDs.f k bt361.1 bt361.2.1 bt361.2.2.1 bt361.2.2.2.1 bt361.2.2.2.2.1 bt361.2.2.2.2.2 x1).bind fun t375 => ((laws_eqIntS.f k t375 x6).bind fun t378 => (if t378 = true then ((laws_heldIntS.f k bt358.2 1).bind fun t379 => (if t379 < 0 then (some false) else (if t379 = bt358.1 then (some true) else (some false)))) else (some false))))) else (some false)))))
def laws_FnExactTransactionIDs.f (k : Nat) (a0_0 : Bool) (l0_1 : List (List (S207))) (l0_2 : List (S60)) (l0_3 : List (S160)) (l0_4 : List (S183)) (a0_5 : Int) (a1 : Int) : Option (Bool) := (laws_szEngine.f k a0_0 l0_1 l0_2 l0_3 l0_4 a0_5 1048576).bind fun t304 => (if t304 < 0 then (some true) else ((laws_toEngine.f k a0_0 l0_1 l0_2 l0_3 l0_4 a0_5).bind fun bt305 => ((spec_TransactionIDs.f k bt305.1 bt305.2.1 bt305.2.2.1 bt305.2.2.2.1 bt305.2.2.2.2.1 bt305.2.2.2.2.2 a1).bind fun t319 => ((laws_toEngine.f k a0_0 l0_1 l0_2 l0_3 l0_4 a0_5).bind fun bt322 => ((impl_TransactionIDs.f k bt322.1 bt322.2.1 bt322.2.2.1 bt322.2.2.2.1 bt322.2.2.2.2.1 bt322.2.2.2.2.2 a1).bind fun t337 => ((laws_eqIntS.f k t337 t319).bind fun t340 => (if t340 = true then ((laws_toEngine.f k a0_0 l0_1 l0_2 l0_3 l0_4 a0_5).bind fun bt341 => ((laws_eqEngine.f k bt322.1 bt322.2.1 bt322.2.2.1 bt322.2.2.2.1 bt322.2.2.2.2.1 bt322.2.2.2.2.2 bt341.1 bt341.2.1 bt341.2.2.1 bt341.2.2.2.1 bt341.2.2.2.2.1 bt341.2.2.2.2.2).bind fun t355 => (if t355 = true then ((laws_markEngine.f k bt322.1 bt322.2.1 bt322.2.2.1 bt322.2.2.2.1 bt322.2.2.2.2.1 bt322.2.2.2.2.2 1).bind fun t356 => (if t356 < 0 then (laws_FnExactTransactionIDs.j0 k a1 t319 t337 true a0_0 l0_1 l0_2 l0_3 l0_4 a0_5) else ((laws_eqIntS.f k t337 t319).bind fun t357 => (laws_FnExactTransactionIDs.j0 k a1 t319 t337 (!t357) a0_0 l0_1 l0_2 l0_3 l0_4 a0_5)))) else (some false)))) else (some false))))))))
theorem laws_FnExactTransactionIDs.mono_l : ∀ k, (∀ y0 y1 y2 y3 y4 y5 y6 y7 y8 y9, LeO (laws_FnExactTransactionIDs.j0 k y0 y1 y2 y3 y4 y5 y6 y7 y8 y9) (laws_FnExactTransactionIDs.j0 (k + 1) y0 y1 y2 y3 y4 y5 y6 y7 y8 y9))
 | 0 => fun _ _ _ _ _ _ _ _ _ _ r h => by simp [laws_FnExactTransactionIDs.j0] at h
 | k + 1 => by
  have ih0 := laws_FnExactTransactionIDs.mono_l k
  ·intro y0 y1 y2 y3 y4 y5 y6 y7 y8 y9
   unfold laws_FnExactTransactionIDs.j0
   repeat' first
   | (with_reducible exact ih0 _ _ _ _ _ _ _ _ _ _)
   | (with_reducible exact impl_TransactionIDs.mono _ _ _ _ _ _ _ _)
   | (with_reducible exact laws_eqEngine.mono _ _ _ _ _ _ _ _ _ _ _ _ _)
   | (with_reducible exact laws_eqIntS.mono _ _ _)
   | (with_reducible exact laws_heldIntS.mono _ _ _)
   | (with_reducible exact laws_markEngine.mono _ _ _ _ _ _ _ _)
   | (with_reducible exact laws_markIntS.mono _ _ _)
   | (with_reducible exact laws_szEngine.mono _ _ _ _ _ _ _ _)
   | (with_reducible exact laws_toEngine.mono _ _ _ _ _ _ _)
   | (with_reducible exact spec_TransactionIDs.mono _ _ _ _ _ _ _ _)
   | (with_reducible exact LeO.refl _)
   | (with_reducible exact LeO.none _)
   | (with_reducible refine LeO.ite ?_ ?_)
   | (with_reducible refine LeO.bind ?_ (fun _ => ?_))
   | exact ih0 _ _ _ _ _ _ _ _ _ _
   | exact impl_TransactionIDs.mono _ _ _ _ _ _ _ _
   | exact laws_eqEngine.mono _ _ _ _ _ _ _ _ _ _ _ _ _
   | exact laws_eqIntS.mono _ _ _
   | exact laws_heldIntS.mono _ _ _
   | exact laws_markEngine.mono _ _ _ _ _ _ _ _
   | exact laws_markIntS.mono _ _ _
   | exact laws_szEngine.mono _ _ _ _ _ _ _ _
   | exact laws_toEngine.mono _ _ _ _ _ _ _
   | exact spec_TransactionIDs.mono _ _ _ _ _ _ _ _
   | exact LeO.none _
   | refine LeO.ite ?_ ?_
   | refine LeO.bind ?_ (fun _ => ?_)
theorem laws_FnExactTransactionIDs.mono : ∀ a0 a1 a2 a3 a4 a5 a6 k, LeO (laws_FnExactTransactionIDs.f k a0 a1 a2 a3 a4 a5 a6) (laws_FnExactTransactionIDs.f (k + 1) a0 a1 a2 a3 a4 a5 a6) := by
 intro a0 a1 a2 a3 a4 a5 a6 k
 have ih0 := laws_FnExactTransactionIDs.mono_l k
 unfold laws_FnExactTransactionIDs.f
 repeat' first
   | (with_reducible exact ih0 _ _ _ _ _ _ _ _ _ _)
   | (with_reducible exact impl_TransactionIDs.mono _ _ _ _ _ _ _ _)
   | (with_reducible exact laws_eqEngine.mono _ _ _ _ _ _ _ _ _ _ _ _ _)
   | (with_reducible exact laws_eqIntS.mono _ _ _)
   | (with_reducible exact laws_heldIntS.mono _ _ _)
   | (with_reducible exact laws_markEngine.mono _ _ _ _ _ _ _ _)
   | (with_reducible exact laws_markIntS.mono _ _ _)
   | (with_reducible exact laws_szEngine.mono _ _ _ _ _ _ _ _)
   | (with_reducible exact laws_toEngine.mono _ _ _ _ _ _ _)
   | (with_reducible exact spec_TransactionIDs.mono _ _ _ _ _ _ _ _)
   | (with_reducible exact LeO.refl _)
   | (with_reducible exact LeO.none _)
   | (with_reducible refine LeO.ite ?_ ?_)
   | (with_reducible refine LeO.bind ?_ (fun _ => ?_))
   | exact ih0 _ _ _ _ _ _ _ _ _ _
   | exact impl_TransactionIDs.mono _ _ _ _ _ _ _ _
   | exact laws_eqEngine.mono _ _ _ _ _ _ _ _ _ _ _ _ _
   | exact laws_eqIntS.mono _ _ _
   | exact laws_heldIntS.mono _ _ _
   | exact laws_markEngine.mono _ _ _ _ _ _ _ _
   | exact laws_markIntS.mono _ _ _
   | exact laws_szEngine.mono _ _ _ _ _ _ _ _
   | exact laws_toEngine.mono _ _ _ _ _ _ _
   | exact spec_TransactionIDs.mono _ _ _ _ _ _ _ _
   | exact LeO.none _
   | refine LeO.ite ?_ ?_
   | refine LeO.bind ?_ (fun _ => ?_)
set_option maxHeartbeats 8000000 in
set_option maxRecDepth 100000 in
theorem laws_FnExactTransactionIDs.calls (k : Nat) (a0_0 : Bool) (A0_1 : Option Addr) (c0_1 : Nat) (l0_1 : List (List (S207))) (A0_2 : Option Addr) (c0_2 : Nat) (l0_2 : List (S60)) (A0_3 : Option Addr) (c0_3 : Nat) (l0_3 : List (S160)) (A0_4 : Option Addr) (c0_4 : Nat) (l0_4 : List (S183)) (a0_5 : Int) (a1 : Int) (r : Bool) (w : World) (hr0_1 : Kd.C (Kd.slice 207 k207) w A0_1 l0_1.length l0_1) (hc0_1 : l0_1.length ≤ c0_1) (hr0_2 : Kd.C k60 w A0_2 l0_2.length l0_2) (hc0_2 : l0_2.length ≤ c0_2) (hr0_3 : Kd.C k160 w A0_3 l0_3.length l0_3) (hc0_3 : l0_3.length ≤ c0_3) (hr0_4 : Kd.C k183 w A0_4 l0_4.length l0_4) (hc0_4 : l0_4.length ≤ c0_4) (h : laws_FnExactTransactionIDs.f k a0_0 l0_1 l0_2 l0_3 l0_4 a0_5 a1 = some r) :
  Calls Try.prog 12 #[.agg #[.bool a0_0, .slice A0_1 l0_1.length c0_1, .slice A0_2 l0_2.length c0_2, .slice A0_3 l0_3.length c0_3, .slice A0_4 l0_4.length c0_4, .int .i64 a0_5], .int .i64 a1] w fun e w' => e = .returned (.bool r) ∧ Below w.heap.size w w' := by
 have hu44 := Try.underlying44
 have hu53 := Try.underlying53
 have HR0_1 := AM_ hr0_1
 have HC0_1 := AM_ hc0_1
 clear hr0_1 hc0_1
 have HR0_2 := AM_ hr0_2
 have HC0_2 := AM_ hc0_2
 clear hr0_2 hc0_2
 have HR0_3 := AM_ hr0_3
 have HC0_3 := AM_ hc0_3
 clear hr0_3 hc0_3
 have HR0_4 := AM_ hr0_4
 have HC0_4 := AM_ hc0_4
 clear hr0_4 hc0_4
 have HB := AM_ (Below.refl w.heap.size w)
 have H : ((laws_szEngine.f k a0_0 l0_1 l0_2 l0_3 l0_4 a0_5 1048576).bind fun t304 => (if t304 < 0 then (some true) else ((laws_toEngine.f k a0_0 l0_1 l0_2 l0_3 l0_4 a0_5).bind fun bt305 => ((spec_TransactionIDs.f k bt305.1 bt305.2.1 bt305.2.2.1 bt305.2.2.2.1 bt305.2.2.2.2.1 bt305.2.2.2.2.2 a1).bind fun t319 => ((laws_toEngine.f k a0_0 l0_1 l0_2 l0_3 l0_4 a0_5).bind fun bt322 => ((impl_TransactionIDs.f k bt322.1 bt322.2.1 bt322.2.2.1 bt322.2.2.2.1 bt322.2.2.2.2.1 bt322.2.2.2.2.2 a1).bind fun t337 => ((laws_eqIntS.f k t337 t319).bind fun t340 => (if t340 = true then ((laws_toEngine.f k a0_0 l0_1 l0_2 l0_3 l0_4 a0_5).bind fun bt341 => ((laws_eqEngine.f k bt322.1 bt322.2.1 bt322.2.2.1 bt322.2.2.2.1 bt322.2.2.2.2.1 bt322.2.2.2.2.2 bt341.1 bt341.2.1 bt341.2.2.1 bt341.2.2.2.1 bt341.2.2.2.2.1 bt341.2.2.2.2.2).bind fun t355 => (if t355 = true then ((laws_markEngine.f k bt322.1 bt322.2.1 bt322.2.2.1 bt322.2.2.2.1 bt322.2.2.2.2.1 bt322.2.2.2.2.2 1).bind fun t356 => (if t356 < 0 then (laws_FnExactTransactionIDs.j0 k a1 t319 t337 true a0_0 l0_1 l0_2 l0_3 l0_4 a0_5) else ((laws_eqIntS.f k t337 t319).bind fun t357 => (laws_FnExactTransactionIDs.j0 k a1 t319 t337 (!t357) a0_0 l0_1 l0_2 l0_3 l0_4 a0_5)))) else (some false)))) else (some false))))))))) = some r := h
 clear h
 replace H := Option.bind_eq_some_iff.mp H
 obtain ⟨t304, A30, H⟩ := H
 replace H : (if t304 < 0 then (some true) else ((laws_toEngine.f k a0_0 l0_1 l0_2 l0_3 l0_4 a0_5).bind fun bt305 => ((spec_TransactionIDs.f k bt305.1 bt305.2.1 bt305.2.2.1 bt305.2.2.2.1 bt305.2.2.2.2.1 bt305.2.2.2.2.2 a1).bind fun t319 => ((laws_toEngine.f k a0_0 l0_1 l0_2 l0_3 l0_4 a0_5).bind fun bt322 => ((impl_TransactionIDs.f k bt322.1 bt322.2.1 bt322.2.2.1 bt322.2.2.2.1 bt322.2.2.2.2.1 bt322.2.2.2.2.2 a1).bind fun t337 => ((laws_eqIntS.f k t337 t319).bind fun t340 => (if t340 = true then ((laws_toEngine.f k a0_0 l0_1 l0_2 l0_3 l0_4 a0_5).bind fun bt341 => ((laws_eqEngine.f k bt322.1 bt322.2.1 bt322.2.2.1 bt322.2.2.2.1 bt322.2.2.2.2.1 bt322.2.2.2.2.2 bt341.1 bt341.2.1 bt341.2.2.1 bt341.2.2.2.1 bt341.2.2.2.2.1 bt341.2.2.2.2.2).bind fun t355 => (if t355 = true then ((laws_markEngine.f k bt322.1 bt322.2.1 bt322.2.2.1 bt322.2.2.2.1 bt322.2.2.2.2.1 bt322.2.2.2.2.2 1).bind fun t356 => (if t356 < 0 then (laws_FnExactTransactionIDs.j0 k a1 t319 t337 true a0_0 l0_1 l0_2 l0_3 l0_4 a0_5) else ((laws_eqIntS.f k t337 t319).bind fun t357 => (laws_FnExactTransactionIDs.j0 k a1 t319 t337 (!t357) a0_0 l0_1 l0_2 l0_3 l0_4 a0_5)))) else (some false)))) else (some false)))))))) = some r := H
 have A3 := AM_ A30
 clear A30
 by_cases c4 : t304 < 0
 ·rw [if_pos c4] at H
  have c4b0 : decide (t304 < 0) = true := decide_eq_true c4
  clear c4
  obtain rfl := Option.some.inj H
  go_enter Try.func12, Try.ntmps12
  go_wp2_with (first | ((with_reducible refine gate_dst (N := 2) rfl ?_); refine box_event ?hg (N := 2) ?hd (cs := #[.bool a0_0, .slice A0_1 l0_1.length c0_1, .slice A0_2 l0_2.length c0_2, .slice A0_3 l0_3.length c0_3, .slice A0_4 l0_4.length c0_4, .int .i64 a0_5]) (t := 44) ?hr ?_; (case hd => rfl); (case hg => rfl); (case hr => first | (go_simp; done) | (go_simp; rfl)); intro gb303 hg w5 hbox hb; have BK303 := AM_ (hbox); have GW303 := AM_ ((GS HB.out hg)); have GE303 := AM_ ((GS HB.out hg)); replace HB := AM_ (below_step (BT HB.out) hb); clear hb hbox hg; obtain ⟨hcz6_0, hcz6_1, hcz6_2, hcz6_3, hcz6_4, hcz6_5, hfz6_0, hfz6_1, hfz6_2, hfz6_3, hfz6_4, hfz6_5⟩ := bk6 BK303.out) | ((with_reducible refine gate_callee (f := 27) rfl ?_); refine goesL_ (some 15) rfl rfl Try.func27 (by kernel_rfl) rfl #[.agg #[.bool a0_0, .slice A0_1 l0_1.length c0_1, .slice A0_2 l0_2.length c0_2, .slice A0_3 l0_3.length c0_3, .slice A0_4 l0_4.length c0_4, .int .i64 a0_5], .int .i64 1048576] rfl (by (try simp only [List.map_toArray, List.map_cons, List.map_nil]); first | done | rfl | (simp only [List.length_drop, List.length_take]; rfl)) ?_; (with_reducible refine (laws_szEngine.calls k a0_0 _ _ l0_1 _ _ l0_2 _ _ l0_3 _ _ l0_4 a0_5 1048576 t304 _ ?side1 ?side2 ?side3 ?side4 ?side5 ?side6 ?side7 ?side8 A3.out).mono ?_); (case side1 => exact CB HR0_1.out HB.out); (case side2 => exact HC0_1.out); (case side3 => exact CB HR0_2.out HB.out); (case side4 => exact HC0_2.out); (case side5 => exact CB HR0_3.out HB.out); (case side6 => exact HC0_3.out); (case side7 => exact CB HR0_4.out HB.out); (case side8 => exact HC0_4.out); rintro e w7 ⟨rfl, hb⟩; refine ⟨_, rfl, ?_⟩; replace BK303 := AM_ (BB BK303.out hb); replace HB := AM_ (below_step (BT HB.out) hb); (try clear hb); (try clear hb2); (try clear hk); (try clear hi)))
  go_ret
  exact QT (BT HB.out)
 rw [if_neg c4] at H
 have c4b0 : decide (t304 < 0) = false := decide_eq_false c4
 clear c4
 replace H := Option.bind_eq_some_iff.mp H
 obtain ⟨⟨t305, t306, t309, t312, t315, t318⟩, A80, H⟩ := H
 replace H : ((spec_TransactionIDs.f k t305 t306 t309 t312 t315 t318 a1).bind fun t319 => ((laws_toEngine.f k a0_0 l0_1 l0_2 l0_3 l0_4 a0_5).bind fun bt322 => ((impl_TransactionIDs.f k bt322.1 bt322.2.1 bt322.2.2.1 bt322.2.2.2.1 bt322.2.2.2.2.1 bt322.2.2.2.2.2 a1).bind fun t337 => ((laws_eqIntS.f k t337 t319).bind fun t340 => (if t340 = true then ((laws_toEngine.f k a0_0 l0_1 l0_2 l0_3 l0_4 a0_5).bind fun bt341 => ((laws_eqEngine.f k bt322.1 bt322.2.1 bt322.2.2.1 bt322.2.2.2.1 bt322.2.2.2.2.1 bt322.2.2.2.2.2 bt341.1 bt341.2.1 bt341.2.2.1 bt341.2.2.2.1 bt341.2.2.2.2.1 bt341.2.2.2.2.2).bind fun t355 => (if t355 = true then ((laws_markEngine.f k bt322.1 bt322.2.1 bt322.2.2.1 bt322.2.2.2.1 bt322.2.2.2.2.1 bt322.2.2.2.2.2 1).bind fun t356 => (if t356 < 0 then (laws_FnExactTransactionIDs.j0 k a1 t319 t337 true a0_0 l0_1 l0_2 l0_3 l0_4 a0_5) else ((laws_eqIntS.f k t337 t319).bind fun t357 => (laws_FnExactTransactionIDs.j0 k a1 t319 t337 (!t357) a0_0 l0_1 l0_2 l0_3 l0_4 a0_5)))) else (some false)))) else (some false)))))) = some r := H
 have A8 := AM_ A80
 clear A80
 replace H := Option.bind_eq_some_iff.mp H
 obtain ⟨t319, A90, H⟩ := H
 replace H : ((laws_toEngine.f k a0_0 l0_1 l0_2 l0_3 l0_4 a0_5).bind fun bt322 => ((impl_TransactionIDs.f k bt322.1 bt322.2.1 bt322.2.2.1 bt322.2.2.2.1 bt322.2.2.2.2.1 bt322.2.2.2.2.2 a1).bind fun t337 => ((laws_eqIntS.f k t337 t319).bind fun t340 => (if t340 = true then ((laws_toEngine.f k a0_0 l0_1 l0_2 l0_3 l0_4 a0_5).bind fun bt341 => ((laws_eqEngine.f k bt322.1 bt322.2.1 bt322.2.2.1 bt322.2.2.2.1 bt322.2.2.2.2.1 bt322.2.2.2.2.2 bt341.1 bt341.2.1 bt341.2.2.1 bt341.2.2.2.1 bt341.2.2.2.2.1 bt341.2.2.2.2.2).bind fun t355 => (if t355 = true then ((laws_markEngine.f k bt322.1 bt322.2.1 bt322.2.2.1 bt322.2.2.2.1 bt322.2.2.2.2.1 bt322.2.2.2.2.2 1).bind fun t356 => (if t356 < 0 then (laws_FnExactTransactionIDs.j0 k a1 t319 t337 true a0_0 l0_1 l0_2 l0_3 l0_4 a0_5) else ((laws_eqIntS.f k t337 t319).bind fun t357 => (laws_FnExactTransactionIDs.j0 k a1 t319 t337 (!t357) a0_0 l0_1 l0_2 l0_3 l0_4 a0_5)))) else (some false)))) else (some false))))) = some r := H
 have A9 := AM_ A90
 clear A90
 replace H := Option.bind_eq_some_iff.mp H
 obtain ⟨⟨t322, t323, t326, t329, t332, t335⟩, A100, H⟩ := H
 replace H : ((impl_TransactionIDs.f k t322 t323 t326 t329 t332 t335 a1).bind fun t337 => ((laws_eqIntS.f k t337 t319).bind fun t340 => (if t340 = true then ((laws_toEngine.f k a0_0 l0_1 l0_2 l0_3 l0_4 a0_5).bind fun bt341 => ((laws_eqEngine.f k t322 t323 t326 t329 t332 t335 bt341.1 bt341.2.1 bt341.2.2.1 bt341.2.2.2.1 bt341.2.2.2.2.1 bt341.2.2.2.2.2).bind fun t355 => (if t355 = true then ((laws_markEngine.f k t322 t323 t326 t329 t332 t335 1).bind fun t356 => (if t356 < 0 then (laws_FnExactTransactionIDs.j0 k a1 t319 t337 true a0_0 l0_1 l0_2 l0_3 l0_4 a0_5) else ((laws_eqIntS.f k t337 t319).bind fun t357 => (laws_FnExactTransactionIDs.j0 k a1 t319 t337 (!t357) a0_0 l0_1 l0_2 l0_3 l0_4 a0_5)))) else (some false)))) else (some false)))) = some r := H
 have A10 := AM_ A100
 clear A100
 replace H := Option.bind_eq_some_iff.mp H
 obtain ⟨t337, A110, H⟩ := H
 replace H : ((laws_eqIntS.f k t337 t319).bind fun t340 => (if t340 = true then ((laws_toEngine.f k a0_0 l0_1 l0_2 l0_3 l0_4 a0_5).bind fun bt341 => ((laws_eqEngine.f k t322 t323 t326 t329 t332 t335 bt341.1 bt341.2.1 bt341.2.2.1 bt341.2.2.2.1 bt341.2.2.2.2.1 bt341.2.2.2.2.2).bind fun t355 => (if t355 = true then ((laws_markEngine.f k t322 t323 t326 t329 t332 t335 1).bind fun t356 => (if t356 < 0 then (laws_FnExactTransactionIDs.j0 k a1 t319 t337 true a0_0 l0_1 l0_2 l0_3 l0_4 a0_5) else ((laws_eqIntS.f k t337 t319).bind fun t357 => (laws_FnExactTransactionIDs.j0 k a1 t319 t337 (!t357) a0_0 l0_1 l0_2 l0_3 l0_4 a0_5)))) else (some false)))) else (some false))) = some r := H
 have A11 := AM_ A110
 clear A110
 replace H := Option.bind_eq_some_iff.mp H
 obtain ⟨t340, A120, H⟩ := H
 replace H : (if t340 = true then ((laws_toEngine.f k a0_0 l0_1 l0_2 l0_3 l0_4 a0_5).bind fun bt341 => ((laws_eqEngine.f k t322 t323 t326 t329 t332 t335 bt341.1 bt341.2.1 bt341.2.2.1 bt341.2.2.2.1 bt341.2.2.2.2.1 bt341.2.2.2.2.2).bind fun t355 => (if t355 = true then ((laws_markEngine.f k t322 t323 t326 t329 t332 t335 1).bind fun t356 => (if t356 < 0 then (laws_FnExactTransactionIDs.j0 k a1 t319 t337 true a0_0 l0_1 l0_2 l0_3 l0_4 a0_5) else ((laws_eqIntS.f k t337 t319).bind fun t357 => (laws_FnExactTransactionIDs.j0 k a1 t319 t337 (!t357) a0_0 l0_1 l0_2 l0_3 l0_4 a0_5)))) else (some false)))) else (some false)) = some r := H
 have A12 := AM_ A120
 clear A120
 by_cases c13 : t340 = true
 rotate_left
 ·replace c13 := Bool.eq_false_iff.mpr c13
  subst c13
  have H1 : (some false) = some r := by rw [if_neg (show ¬ (false = true) by decide)] at H; exact H
  clear H
  have H := H1
  clear H1
  obtain rfl := Option.some.inj H
  go_enter Try.func12, Try.ntmps12
  go_wp2_with (first | ((with_reducible refine gate_dst (N := 2) rfl ?_); refine box_event ?hg (N := 2) ?hd (cs := #[.bool a0_0, .slice A0_1 l0_1.length c0_1, .slice A0_2 l0_2.length c0_2, .slice A0_3 l0_3.length c0_3, .slice A0_4 l0_4.length c0_4, .int .i64 a0_5]) (t := 44) ?hr ?_; (case hd => rfl); (case hg => rfl); (case hr => first | (go_simp; done) | (go_simp; rfl)); intro gb303 hg w133 hbox hb; have BK303 := AM_ (hbox); have GW303 := AM_ ((GS HB.out hg)); have GE303 := AM_ ((GS HB.out hg)); replace HB := AM_ (below_step (BT HB.out) hb); clear hb hbox hg; obtain ⟨hcz134_0, hcz134_1, hcz134_2, hcz134_3, hcz134_4, hcz134_5, hfz134_0, hfz134_1, hfz134_2, hfz134_3, hfz134_4, hfz134_5⟩ := bk6 BK303.out) | ((with_reducible refine gate_callee (f := 27) rfl ?_); refine goesL_ (some 15) rfl rfl Try.func27 (by kernel_rfl) rfl #[.agg #[.bool a0_0, .slice A0_1 l0_1.length c0_1, .slice A0_2 l0_2.length c0_2, .slice A0_3 l0_3.length c0_3, .slice A0_4 l0_4.length c0_4, .int .i64 a0_5], .int .i64 1048576] rfl (by (try simp only [List.map_toArray, List.map_cons, List.map_nil]); first | done | rfl | (simp only [List.length_drop, List.length_take]; rfl)) ?_; (with_reducible refine (laws_szEngine.calls k a0_0 _ _ l0_1 _ _ l0_2 _ _ l0_3 _ _ l0_4 a0_5 1048576 t304 _ ?side1 ?side2 ?side3 ?side4 ?side5 ?side6 ?side7 ?side8 A3.out).mono ?_); (case side1 => exact CB HR0_1.out HB.out); (case side2 => exact HC0_1.out); (case side3 => exact CB HR0_2.out HB.out); (case side4 => exact HC0_2.out); (case side5 => exact CB HR0_3.out HB.out); (case side6 => exact HC0_3.out); (case side7 => exact CB HR0_4.out HB.out); (case side8 => exact HC0_4.out); rintro e w135 ⟨rfl, hb⟩; refine ⟨_, rfl, ?_⟩; replace BK303 := AM_ (BB BK303.out hb); replace HB := AM_ (below_step (BT HB.out) hb); (try clear hb); (try clear hb2); (try clear hk); (try clear hi); obtain ⟨hcz136_0, hcz136_1, hcz136_2, hcz136_3, hcz136_4, hcz136_5, hfz136_0, hfz136_1, hfz136_2, hfz136_3, hfz136_4, hfz136_5⟩ := bk6 BK303.out) | ((with_reducible refine gate_callee (f := 29) rfl ?_); refine goesL_ (some 19) rfl rfl Try.func29 (by kernel_rfl) rfl #[.agg #[.bool a0_0, .slice A0_1 l0_1.length c0_1, .slice A0_2 l0_2.length c0_2, .slice A0_3 l0_3.length c0_3, .slice A0_4 l0_4.length c0_4, .int .i64 a0_5]] rfl (by (try simp only [List.map_toArray, List.map_cons, List.map_nil]); first | done | rfl | (simp only [List.length_drop, List.length_take]; rfl)) ?_; (with_reducible refine (laws_toEngine.calls k a0_0 _ _ l0_1 _ _ l0_2 _ _ l0_3 _ _ l0_4 a0_5 t305 t306 t309 t312 t315 t318 _ ?side1 ?side2 ?side3 ?side4 ?side5 ?side6 ?side7 ?side8 A8.out).mono ?_); (case side1 => exact CB HR0_1.out HB.out); (case side2 => exact HC0_1.out); (case side3 => exact CB HR0_2.out HB.out); (case side4 => exact HC0_2.out); (case side5 => exact CB HR0_3.out HB.out); (case side6 => exact HC0_3.out); (case side7 => exact CB HR0_4.out HB.out); (case side8 => exact HC0_4.out); rintro e w137 ⟨v307, v310, v313, v316, rfl, ho0, ho1, ho2, ho3, hb⟩; refine ⟨_, rfl, ?_⟩; have HO308 := AM_ (Kd.S_lower ho0 (below_size (BT HB.out))); have HO311 := AM_ (Kd.S_lower ho1 (below_size (BT HB.out))); have HO314 := AM_ (Kd.R_lower ho2 (below_size (BT HB.out))); have HO317 := AM_ (Kd.R_lower ho3 (below_size (BT HB.out))); replace BK303 := AM_ (BB BK303.out hb); replace HB := AM_ (below_step (BT HB.out) hb); (try clear hb); (try clear hb2); (try clear hk); (try clear hi); (try clear ho0); (try clear ho1); (try clear ho2); (try clear ho3); obtain ⟨Ao138, co138, eo138⟩ := Kd.S_slice HO308.out; subst eo138; obtain ⟨Ao139, co139, eo139⟩ := Kd.S_slice HO311.out; subst eo139; obtain ⟨Ao140, co140, eo140⟩ := Kd.R_slice HO314.out; subst eo140; obtain ⟨Ao141, co141, eo141⟩ := Kd.R_slice HO317.out; subst eo141) | ((with_reducible refine gate_callee (f := 66) rfl ?_); refine goesL_ (some 21) rfl rfl Try.func66 (by kernel_rfl) rfl #[.agg #[.bool t305, .slice Ao138 t306.length co138, .slice Ao139 t309.length co139, .slice Ao140 t312.length co140, .slice Ao141 t315.length co141, .int .i64 t318], .int .i64 a1] rfl (by (try simp only [List.map_toArray, List.map_cons, List.map_nil]); first | done | rfl | (simp only [List.length_drop, List.length_take]; rfl)) ?_; (with_reducible refine (spec_TransactionIDs.calls k t305 _ _ t306 _ _ t309 _ _ t312 _ _ t315 t318 a1 t319 _ ?side1 ?side2 ?side3 ?side4 ?side5 ?side6 ?side7 ?side8 A9.out).mono ?_); (case side1 => exact Kd.C_below (Kd.S_reads' HO308.out).2.2 (BL (Below.refl _ _) rfl rfl rfl rfl)); (case side2 => exact (Kd.S_reads' HO308.out).2.1); (case side3 => exact Kd.C_below (Kd.S_reads' HO311.out).2.2 (BL (Below.refl _ _) rfl rfl rfl rfl)); (case side4 => exact (Kd.S_reads' HO311.out).2.1); (case side5 => exact Kd.C_below (Kd.R_reads' HO314.out).2.2 (BL (Below.refl _ _) rfl rfl rfl rfl)); (case side6 => exact (Kd.R_reads' HO314.out).2.1); (case side7 => exact Kd.C_below (Kd.R_reads' HO317.out).2.2 (BL (Below.refl _ _) rfl rfl rfl rfl)); (case side8 => exact (Kd.R_reads' HO317.out).2.1); rintro e w142 ⟨v320, rfl, ho0, hb⟩; refine ⟨_, rfl, ?_⟩; replace HO308 := AM_ (Kd.S_below (ST HO308.out) hb); replace HO311 := AM_ (Kd.S_below (ST HO311.out) hb); replace HO314 := AM_ (Kd.R_below (RT HO314.out) hb); replace HO317 := AM_ (Kd.R_below (RT HO317.out) hb); have HO321 := AM_ (Kd.R_lower ho0 (below_size (BT HB.out))); replace BK303 := AM_ (BB BK303.out hb); replace HB := AM_ (below_step (BT HB.out) hb); (try clear hb); (try clear hb2); (try clear hk); (try clear hi); (try clear ho0); obtain ⟨hcz143_0, hcz143_1, hcz143_2, hcz143_3, hcz143_4, hcz143_5, hfz143_0, hfz143_1, hfz143_2, hfz143_3, hfz143_4, hfz143_5⟩ := bk6 BK303.out) | ((with_reducible refine gate_callee (f := 29) rfl ?_); refine goesL_ (some 23) rfl rfl Try.func29 (by kernel_rfl) rfl #[.agg #[.bool a0_0, .slice A0_1 l0_1.length c0_1, .slice A0_2 l0_2.length c0_2, .slice A0_3 l0_3.length c0_3, .slice A0_4 l0_4.length c0_4, .int .i64 a0_5]] rfl (by (try simp only [List.map_toArray, List.map_cons, List.map_nil]); first | done | rfl | (simp only [List.length_drop, List.length_take]; rfl)) ?_; (with_reducible refine (laws_toEngine.calls k a0_0 _ _ l0_1 _ _ l0_2 _ _ l0_3 _ _ l0_4 a0_5 t322 t323 t326 t329 t332 t335 _ ?side1 ?side2 ?side3 ?side4 ?side5 ?side6 ?side7 ?side8 A10.out).mono ?_); (case side1 => exact CB HR0_1.out HB.out); (case side2 => exact HC0_1.out); (case side3 => exact CB HR0_2.out HB.out); (case side4 => exact HC0_2.out); (case side5 => exact CB HR0_3.out HB.out); (case side6 => exact HC0_3.out); (case side7 => exact CB HR0_4.out HB.out); (case side8 => exact HC0_4.out); rintro e w144 ⟨v324, v327, v330, v333, rfl, ho0, ho1, ho2, ho3, hb⟩; refine ⟨_, rfl, ?_⟩; replace HO321 := AM_ (Kd.R_below (RT HO321.out) hb); have HO325 := AM_ (Kd.S_lower (Kd.S_new' ho0 (Kd.S_lt (ST HO308.out))) (below_size (BT HB.out))); replace HO308 := AM_ (Kd.S_elder' (ST HO308.out) (Kd.S_base ho0) hb); have HO328 := AM_ (Kd.S_lower (Kd.S_new' ho1 (Kd.S_lt (ST HO311.out))) (below_size (BT HB.out))); replace HO311 := AM_ (Kd.S_elder' (ST HO311.out) (Kd.S_base ho1) hb); have HO331 := AM_ (Kd.R_lower (Kd.R_new' ho2 (Kd.R_lt (RT HO314.out))) (below_size (BT HB.out))); replace HO314 := AM_ (Kd.R_elder' (RT HO314.out) (Kd.R_base ho2) hb); have HO334 := AM_ (Kd.R_lower (Kd.R_new' ho3 (Kd.R_lt (RT HO317.out))) (below_size (BT HB.out))); replace HO317 := AM_ (Kd.R_elder' (RT HO317.out) (Kd.R_base ho3) hb); replace BK303 := AM_ (BB BK303.out hb); replace HB := AM_ (below_step (BT HB.out) hb); (try clear hb); (try clear hb2); (try clear hk); (try clear hi); (try clear ho0); (try clear ho1); (try clear ho2); (try clear ho3)) | ((with_reducible refine gate_dst (N := 7) rfl ?_); refine box_event ?hg (N := 7) ?hd (cs := #[.bool false, .slice none 0 0, .slice none 0 0, .slice none 0 0, .slice none 0 0, .int .i64 0]) (t := 53) ?hr ?_; (case hd => rfl); (case hg => rfl); (case hr => first | (go_simp; done) | (go_simp; rfl)); intro gb336 hg w145 hbox hb; replace HO308 := AM_ (Kd.S_below (ST HO308.out) hb); replace HO311 := AM_ (Kd.S_below (ST HO311.out) hb); replace HO314 := AM_ (Kd.R_below (RT HO314.out) hb); replace HO317 := AM_ (Kd.R_below (RT HO317.out) hb); replace HO321 := AM_ (Kd.R_below (RT HO321.out) hb); replace HO325 := AM_ (Kd.S_below (ST HO325.out) hb); replace HO328 := AM_ (Kd.S_below (ST HO328.out) hb); replace HO331 := AM_ (Kd.R_below (RT HO331.out) hb); replace HO334 := AM_ (Kd.R_below (RT HO334.out) hb); have BK336 := AM_ (hbox); have GW336 := AM_ ((GS HB.out hg)); have GE336 := AM_ ((GS HB.out hg)); replace HB := AM_ (below_step (BT HB.out) hb); have NB303_336 := AM_ ((NL BK303.out hg)); have NB336_303 := AM_ ((NG BK303.out hg)); replace BK303 := AM_ (BB BK303.out hb); clear hb hbox hg; have hnb146 := NB336_303.out; have hnc146 := NB303_336.out; obtain ⟨hcz147_0, hcz147_1, hcz147_2, hcz147_3, hcz147_4, hcz147_5, hfz147_0, hfz147_1, hfz147_2, hfz147_3, hfz147_4, hfz147_5⟩ := bk6 BK336.out; obtain ⟨Ao148, co148, eo148⟩ := Kd.S_slice HO325.out; subst eo148; obtain ⟨Ao149, co149, eo149⟩ := Kd.S_slice HO328.out; subst eo149; obtain ⟨Ao150, co150, eo150⟩ := Kd.R_slice HO331.out; subst eo150; obtain ⟨Ao151, co151, eo151⟩ := Kd.R_slice HO334.out; subst eo151) | ((with_reducible refine gate_callee (f := 67) rfl ?_); refine goesL_ (some 26) rfl rfl Try.func67 (by kernel_rfl) rfl #[.agg #[.bool t322, .slice Ao148 t323.length co148, .slice Ao149 t326.length co149, .slice Ao150 t329.length co150, .slice Ao151 t332.length co151, .int .i64 t335], .int .i64 a1] rfl (by (try simp only [List.map_toArray, List.map_cons, List.map_nil]); first | done | rfl | (simp only [List.length_drop, List.length_take]; rfl)) ?_; (with_reducible refine (impl_TransactionIDs.calls k t322 _ _ t323 _ _ t326 _ _ t329 _ _ t332 t335 a1 t337 _ ?side1 ?side2 ?side3 ?side4 ?side5 ?side6 ?side7 ?side8 A11.out).mono ?_); (case side1 => exact CG HO325.out BK336.out); (case side2 => exact (Kd.S_reads' HO325.out).2.1); (case side3 => exact CG HO328.out BK336.out); (case side4 => exact (Kd.S_reads' HO328.out).2.1); (case side5 => exact CF HO331.out BK336.out); (case side6 => exact (Kd.R_reads' HO331.out).2.1); (case side7 => exact CF HO334.out BK336.out); (case side8 => exact (Kd.R_reads' HO334.out).2.1); rintro e w152 ⟨v338, rfl, ho0, hb⟩; refine ⟨_, rfl, ?_⟩; replace HO308 := AM_ (Kd.S_below (SF HO308.out BK336.out) hb); replace HO311 := AM_ (Kd.S_below (SF HO311.out BK336.out) hb); replace HO314 := AM_ (Kd.R_below (RF HO314.out BK336.out) hb); replace HO317 := AM_ (Kd.R_below (RF HO317.out BK336.out) hb); replace HO325 := AM_ (Kd.S_below (SF HO325.out BK336.out) hb); replace HO328 := AM_ (Kd.S_below (SF HO328.out BK336.out) hb); replace HO331 := AM_ (Kd.R_below (RF HO331.out BK336.out) hb); replace HO334 := AM_ (Kd.R_below (RF HO334.out BK336.out) hb); have HO339 := AM_ (Kd.R_lower (Kd.R_new' ho0 (Kd.R_lt (RF HO321.out BK336.out))) (below_size (BT HB.out))); replace HO321 := AM_ (Kd.R_elder' (RF HO321.out BK336.out) (Kd.R_base ho0) hb); replace BK303 := AM_ (BF BK303.out NB303_336.out hb); replace BK336 := AM_ (BP #[.bool t322, .slice Ao148 t323.length co148, .slice Ao149 t326.length co149, .slice Ao150 t329.length co150, .slice Ao151 t332.length co151, .int .i64 t335] BK336.out hb); replace HB := AM_ (below_step (BT HB.out) hb); (try clear hb); (try clear hb2); (try clear hk); (try clear hi); (try clear ho0); obtain ⟨Ao153, co153, eo153⟩ := Kd.R_slice HO339.out; subst eo153; obtain ⟨Ao154, co154, eo154⟩ := Kd.R_slice HO321.out; subst eo154) | ((with_reducible refine gate_callee (f := 68) rfl ?_); refine goesL_ (some 29) rfl rfl Try.func68 (by kernel_rfl) rfl #[.slice Ao153 t337.length co153, .slice Ao154 t319.length co154] rfl (by (try simp only [List.map_toArray, List.map_cons, List.map_nil]); first | done | rfl | (simp only [List.length_drop, List.length_take]; rfl)) ?_; (with_reducible refine (laws_eqIntS.calls k _ _ t337 _ _ t319 false _ ?side1 ?side2 ?side3 ?side4 A12.out).mono ?_); (case side1 => exact Kd.C_below (Kd.R_reads' HO339.out).2.2 (BL (Below.refl _ _) rfl rfl rfl rfl)); (case side2 => exact (Kd.R_reads' HO339.out).2.1); (case side3 => exact Kd.C_below (Kd.R_reads' HO321.out).2.2 (BL (Below.refl _ _) rfl rfl rfl rfl)); (case side4 => exact (Kd.R_reads' HO321.out).2.1); rintro e w' ⟨rfl, ⟨nd, rfl⟩⟩; refine ⟨_, rfl, ?_⟩))
  go_ret
  exact QT (BT HB.out)
 subst c13
 have H1 : ((laws_toEngine.f k a0_0 l0_1 l0_2 l0_3 l0_4 a0_5).bind fun bt341 => ((laws_eqEngine.f k t322 t323 t326 t329 t332 t335 bt341.1 bt341.2.1 bt341.2.2.1 bt341.2.2.2.1 bt341.2.2.2.2.1 bt341.2.2.2.2.2).bind fun t355 => (if t355 = true then ((laws_markEngine.f k t322 t323 t326 t329 t332 t335 1).bind fun t356 => (if t356 < 0 then (laws_FnExactTransactionIDs.j0 k a1 t319 t337 true a0_0 l0_1 l0_2 l0_3 l0_4 a0_5) else ((laws_eqIntS.f k t337 t319).bind fun t357 => (laws_FnExactTransactionIDs.j0 k a1 t319 t337 (!t357) a0_0 l0_1 l0_2 l0_3 l0_4 a0_5)))) else (some false)))) = some r := by rw [if_pos rfl] at H; exact H
 clear H
 have H := H1
 clear H1
 replace H := Option.bind_eq_some_iff.mp H
 obtain ⟨⟨t341, t342, t345, t348, t351, t354⟩, A140, H⟩ := H
 replace H : ((laws_eqEngine.f k t322 t323 t326 t329 t332 t335 t341 t342 t345 t348 t351 t354).bind fun t355 => (if t355 = true then ((laws_markEngine.f k t322 t323 t326 t329 t332 t335 1).bind fun t356 => (if t356 < 0 then (laws_FnExactTransactionIDs.j0 k a1 t319 t337 true a0_0 l0_1 l0_2 l0_3 l0_4 a0_5) else ((laws_eqIntS.f k t337 t319).bind fun t357 => (laws_FnExactTransactionIDs.j0 k a1 t319 t337 (!t357) a0_0 l0_1 l0_2 l0_3 l0_4 a0_5)))) else (some false))) = some r := H
 have A14 := AM_ A140
 clear A140
 replace H := Option.bind_eq_some_iff.mp H
 obtain ⟨t355, A150, H⟩ := H
 replace H : (if t355 = true then ((laws_markEngine.f k t322 t323 t326 t329 t332 t335 1).bind fun t356 => (if t356 < 0 then (laws_FnExactTransactionIDs.j0 k a1 t319 t337 true a0_0 l0_1 l0_2 l0_3 l0_4 a0_5) else ((laws_eqIntS.f k t337 t319).bind fun t357 => (laws_FnExactTransactionIDs.j0 k a1 t319 t337 (!t357) a0_0 l0_1 l0_2 l0_3 l0_4 a0_5)))) else (some false)) = some r := H
 have A15 := AM_ A150
 clear A150
 by_cases c16 : t355 = true
 rotate_left
 ·replace c16 := Bool.eq_false_iff.mpr c16
  subst c16
  have H1 : (some false) = some r := by rw [if_neg (show ¬ (false = true) by decide)] at H; exact H
  clear H
  have H := H1
  clear H1
  obtain rfl := Option.some.inj H
  go_enter Try.func12, Try.ntmps12
  try go_wp2_with (first | ((with_reducible refine gate_dst (N := 2) rfl ?_); refine box_event ?hg (N := 2) ?hd (cs := #[.bool a0_0, .slice A0_1 l0_1.length c0_1, .slice A0_2 l0_2.length c0_2, .slice A0_3 l0_3.length c0_3, .slice A0_4 l0_4.length c0_4, .int .i64 a0_5]) (t := 44) ?hr ?_; (case hd => rfl); (case hg => rfl); (case hr => first | (go_simp; done) | (go_simp; rfl)); intro gb303 hg w104 hbox hb; have BK303 := AM_ (hbox); have GW303 := AM_ ((GS HB.out hg)); have GE303 := AM_ ((GS HB.out hg)); replace HB := AM_ (below_step (BT HB.out) hb); clear hb hbox hg; obtain ⟨hcz105_0, hcz105_1, hcz105_2, hcz105_3, hcz105_4, hcz105_5, hfz105_0, hfz105_1, hfz105_2, hfz105_3, hfz105_4, hfz105_5⟩ := bk6 BK303.out) | ((with_reducible refine gate_callee (f := 27) rfl ?_); refine goesL_ (some 15) rfl rfl Try.func27 (by kernel_rfl) rfl #[.agg #[.bool a0_0, .slice A0_1 l0_1.length c0_1, .slice A0_2 l0_2.length c0_2, .slice A0_3 l0_3.length c0_3, .slice A0_4 l0_4.length c0_4, .int .i64 a0_5], .int .i64 1048576] rfl (by (try simp only [List.map_toArray, List.map_cons, List.map_nil]); first | done | rfl | (simp only [List.length_drop, List.length_take]; rfl)) ?_; (with_reducible refine (laws_szEngine.calls k a0_0 _ _ l0_1 _ _ l0_2 _ _ l0_3 _ _ l0_4 a0_5 1048576 t304 _ ?side1 ?side2 ?side3 ?side4 ?side5 ?side6 ?side7 ?side8 A3.out).mono ?_); (case side1 => exact CB HR0_1.out HB.out); (case side2 => exact HC0_1.out); (case side3 => exact CB HR0_2.out HB.out); (case side4 => exact HC0_2.out); (case side5 => exact CB HR0_3.out HB.out); (case side6 => exact HC0_3.out); (case side7 => exact CB HR0_4.out HB.out); (case side8 => exact HC0_4.out); rintro e w106 ⟨rfl, hb⟩; refine ⟨_, rfl, ?_⟩; replace BK303 := AM_ (BB BK303.out hb); replace HB := AM_ (below_step (BT HB.out) hb); (try clear hb); (try clear hb2); (try clear hk); (try clear hi); obtain ⟨hcz107_0, hcz107_1, hcz107_2, hcz107_3, hcz107_4, hcz107_5, hfz107_0, hfz107_1, hfz107_2, hfz107_3, hfz107_4, hfz107_5⟩ := bk6 BK303.out) | ((with_reducible refine gate_callee (f := 29) rfl ?_); refine goesL_ (some 19) rfl rfl Try.func29 (by kernel_rfl) rfl #[.agg #[.bool a0_0, .slice A0_1 l0_1.length c0_1, .slice A0_2 l0_2.length c0_2, .slice A0_3 l0_3.length c0_3, .slice A0_4 l0_4.length c0_4, .int .i64 a0_5]] rfl (by (try simp only [List.map_toArray, List.map_cons, List.map_nil]); first | done | rfl | (simp only [List.length_drop, List.length_take]; rfl)) ?_; (with_reducible refine (laws_toEngine.calls k a0_0 _ _ l0_1 _ _ l0_2 _ _ l0_3 _ _ l0_4 a0_5 t305 t306 t309 t312 t315 t318 _ ?side1 ?side2 ?side3 ?side4 ?side5 ?side6 ?side7 ?side8 A8.out).mono ?_); (case side1 => exact CB HR0_1.out HB.out); (case side2 => exact HC0_1.out); (case side3 => exact CB HR0_2.out HB.out); (case side4 => exact HC0_2.out); (case side5 => exact CB HR0_3.out HB.out); (case side6 => exact HC0_3.out); (case side7 => exact CB HR0_4.out HB.out); (case side8 => exact HC0_4.out); rintro e w108 ⟨v307, v310, v313, v316, rfl, ho0, ho1, ho2, ho3, hb⟩; refine ⟨_, rfl, ?_⟩; have HO308 := AM_ (Kd.S_lower ho0 (below_size (BT HB.out))); have HO311 := AM_ (Kd.S_lower ho1 (below_size (BT HB.out))); have HO314 := AM_ (Kd.R_lower ho2 (below_size (BT HB.out))); have HO317 := AM_ (Kd.R_lower ho3 (below_size (BT HB.out))); replace BK303 := AM_ (BB BK303.out hb); replace HB := AM_ (below_step (BT HB.out) hb); (try clear hb); (try clear hb2); (try clear hk); (try clear hi); (try clear ho0); (try clear ho1); (try clear ho2); (try clear ho3); obtain ⟨Ao109, co109, eo109⟩ := Kd.S_slice HO308.out; subst eo109; obtain ⟨Ao110, co110, eo110⟩ := Kd.S_slice HO311.out; subst eo110; obtain ⟨Ao111, co111, eo111⟩ := Kd.R_slice HO314.out; subst eo111; obtain ⟨Ao112, co112, eo112⟩ := Kd.R_slice HO317.out; subst eo112) | ((with_reducible refine gate_callee (f := 66) rfl ?_); refine goesL_ (some 21) rfl rfl Try.func66 (by kernel_rfl) rfl #[.agg #[.bool t305, .slice Ao109 t306.length co109, .slice Ao110 t309.length co110, .slice Ao111 t312.length co111, .slice Ao112 t315.length co112, .int .i64 t318], .int .i64 a1] rfl (by (try simp only [List.map_toArray, List.map_cons, List.map_nil]); first | done | rfl | (simp only [List.length_drop, List.length_take]; rfl)) ?_; (with_reducible refine (spec_TransactionIDs.calls k t305 _ _ t306 _ _ t309 _ _ t312 _ _ t315 t318 a1 t319 _ ?side1 ?side2 ?side3 ?side4 ?side5 ?side6 ?side7 ?side8 A9.out).mono ?_); (case side1 => exact Kd.C_below (Kd.S_reads' HO308.out).2.2 (BL (Below.refl _ _) rfl rfl rfl rfl)); (case side2 => exact (Kd.S_reads' HO308.out).2.1); (case side3 => exact Kd.C_below (Kd.S_reads' HO311.out).2.2 (BL (Below.refl _ _) rfl rfl rfl rfl)); (case side4 => exact (Kd.S_reads' HO311.out).2.1); (case side5 => exact Kd.C_below (Kd.R_reads' HO314.out).2.2 (BL (Below.refl _ _) rfl rfl rfl rfl)); (case side6 => exact (Kd.R_reads' HO314.out).2.1); (case side7 => exact Kd.C_below (Kd.R_reads' HO317.out).2.2 (BL (Below.refl _ _) rfl rfl rfl rfl)); (case side8 => exact (Kd.R_reads' HO317.out).2.1); rintro e w113 ⟨v320, rfl, ho0, hb⟩; refine ⟨_, rfl, ?_⟩; replace HO308 := AM_ (Kd.S_below (ST HO308.out) hb); replace HO311 := AM_ (Kd.S_below (ST HO311.out) hb); replace HO314 := AM_ (Kd.R_below (RT HO314.out) hb); replace HO317 := AM_ (Kd.R_below (RT HO317.out) hb); have HO321 := AM_ (Kd.R_lower ho0 (below_size (BT HB.out))); replace BK303 := AM_ (BB BK303.out hb); replace HB := AM_ (below_step (BT HB.out) hb); (try clear hb); (try clear hb2); (try clear hk); (try clear hi); (try clear ho0); obtain ⟨hcz114_0, hcz114_1, hcz114_2, hcz114_3, hcz114_4, hcz114_5, hfz114_0, hfz114_1, hfz114_2, hfz114_3, hfz114_4, hfz114_5⟩ := bk6 BK303.out) | ((with_reducible refine gate_callee (f := 29) rfl ?_); refine goesL_ (some 23) rfl rfl Try.func29 (by kernel_rfl) rfl #[.agg #[.bool a0_0, .slice A0_1 l0_1.length c0_1, .slice A0_2 l0_2.length c0_2, .slice A0_3 l0_3.length c0_3, .slice A0_4 l0_4.length c0_4, .int .i64 a0_5]] rfl (by (try simp only [List.map_toArray, List.map_cons, List.map_nil]); first | done | rfl | (simp only [List.length_drop, List.length_take]; rfl)) ?_; (with_reducible refine (laws_toEngine.calls k a0_0 _ _ l0_1 _ _ l0_2 _ _ l0_3 _ _ l0_4 a0_5 t322 t323 t326 t329 t332 t335 _ ?side1 ?side2 ?side3 ?side4 ?side5 ?side6 ?side7 ?side8 A10.out).mono ?_); (case side1 => exact CB HR0_1.out HB.out); (case side2 => exact HC0_1.out); (case side3 => exact CB HR0_2.out HB.out); (case side4 => exact HC0_2.out); (case side5 => exact CB HR0_3.out HB.out); (case side6 => exact HC0_3.out); (case side7 => exact CB HR0_4.out HB.out); (case side8 => exact HC0_4.out); rintro e w115 ⟨v324, v327, v330, v333, rfl, ho0, ho1, ho2, ho3, hb⟩; refine ⟨_, rfl, ?_⟩; replace HO321 := AM_ (Kd.R_below (RT HO321.out) hb); have HO325 := AM_ (Kd.S_lower (Kd.S_new' ho0 (Kd.S_lt (ST HO308.out))) (below_size (BT HB.out))); replace HO308 := AM_ (Kd.S_elder' (ST HO308.out) (Kd.S_base ho0) hb); have HO328 := AM_ (Kd.S_lower (Kd.S_new' ho1 (Kd.S_lt (ST HO311.out))) (below_size (BT HB.out))); replace HO311 := AM_ (Kd.S_elder' (ST HO311.out) (Kd.S_base ho1) hb); have HO331 := AM_ (Kd.R_lower (Kd.R_new' ho2 (Kd.R_lt (RT HO314.out))) (below_size (BT HB.out))); replace HO314 := AM_ (Kd.R_elder' (RT HO314.out) (Kd.R_base ho2) hb); have HO334 := AM_ (Kd.R_lower (Kd.R_new' ho3 (Kd.R_lt (RT HO317.out))) (below_size (BT HB.out))); replace HO317 := AM_ (Kd.R_elder' (RT HO317.out) (Kd.R_base ho3) hb); replace BK303 := AM_ (BB BK303.out hb); replace HB := AM_ (below_step (BT HB.out) hb); (try clear hb); (try clear hb2); (try clear hk); (try clear hi); (try clear ho0); (try clear ho1); (try clear ho2); (try clear ho3)) | ((with_reducible refine gate_dst (N := 7) rfl ?_); refine box_event ?hg (N := 7) ?hd (cs := #[.bool false, .slice none 0 0, .slice none 0 0, .slice none 0 0, .slice none 0 0, .int .i64 0]) (t := 53) ?hr ?_; (case hd => rfl); (case hg => rfl); (case hr => first | (go_simp; done) | (go_simp; rfl)); intro gb336 hg w116 hbox hb; replace HO308 := AM_ (Kd.S_below (ST HO308.out) hb); replace HO311 := AM_ (Kd.S_below (ST HO311.out) hb); replace HO314 := AM_ (Kd.R_below (RT HO314.out) hb); replace HO317 := AM_ (Kd.R_below (RT HO317.out) hb); replace HO321 := AM_ (Kd.R_below (RT HO321.out) hb); replace HO325 := AM_ (Kd.S_below (ST HO325.out) hb); replace HO328 := AM_ (Kd.S_below (ST HO328.out) hb); replace HO331 := AM_ (Kd.R_below (RT HO331.out) hb); replace HO334 := AM_ (Kd.R_below (RT HO334.out) hb); have BK336 := AM_ (hbox); have GW336 := AM_ ((GS HB.out hg)); have GE336 := AM_ ((GS HB.out hg)); replace HB := AM_ (below_step (BT HB.out) hb); have NB303_336 := AM_ ((NL BK303.out hg)); have NB336_303 := AM_ ((NG BK303.out hg)); replace BK303 := AM_ (BB BK303.out hb); clear hb hbox hg; have hnb117 := NB336_303.out; have hnc117 := NB303_336.out; obtain ⟨hcz118_0, hcz118_1, hcz118_2, hcz118_3, hcz118_4, hcz118_5, hfz118_0, hfz118_1, hfz118_2, hfz118_3, hfz118_4, hfz118_5⟩ := bk6 BK336.out; obtain ⟨Ao119, co119, eo119⟩ := Kd.S_slice HO325.out; subst eo119; obtain ⟨Ao120, co120, eo120⟩ := Kd.S_slice HO328.out; subst eo120; obtain ⟨Ao121, co121, eo121⟩ := Kd.R_slice HO331.out; subst eo121; obtain ⟨Ao122, co122, eo122⟩ := Kd.R_slice HO334.out; subst eo122) | ((with_reducible refine gate_callee (f := 67) rfl ?_); refine goesL_ (some 26) rfl rfl Try.func67 (by kernel_rfl) rfl #[.agg #[.bool t322, .slice Ao119 t323.length co119, .slice Ao120 t326.length co120, .slice Ao121 t329.length co121, .slice Ao122 t332.length co122, .int .i64 t335], .int .i64 a1] rfl (by (try simp only [List.map_toArray, List.map_cons, List.map_nil]); first | done | rfl | (simp only [List.length_drop, List.length_take]; rfl)) ?_; (with_reducible refine (impl_TransactionIDs.calls k t322 _ _ t323 _ _ t326 _ _ t329 _ _ t332 t335 a1 t337 _ ?side1 ?side2 ?side3 ?side4 ?side5 ?side6 ?side7 ?side8 A11.out).mono ?_); (case side1 => exact CG HO325.out BK336.out); (case side2 => exact (Kd.S_reads' HO325.out).2.1); (case side3 => exact CG HO328.out BK336.out); (case side4 => exact (Kd.S_reads' HO328.out).2.1); (case side5 => exact CF HO331.out BK336.out); (case side6 => exact (Kd.R_reads' HO331.out).2.1); (case side7 => exact CF HO334.out BK336.out); (case side8 => exact (Kd.R_reads' HO334.out).2.1); rintro e w123 ⟨v338, rfl, ho0, hb⟩; refine ⟨_, rfl, ?_⟩; replace HO308 := AM_ (Kd.S_below (SF HO308.out BK336.out) hb); replace HO311 := AM_ (Kd.S_below (SF HO311.out BK336.out) hb); replace HO314 := AM_ (Kd.R_below (RF HO314.out BK336.out) hb); replace HO317 := AM_ (Kd.R_below (RF HO317.out BK336.out) hb); replace HO325 := AM_ (Kd.S_below (SF HO325.out BK336.out) hb); replace HO328 := AM_ (Kd.S_below (SF HO328.out BK336.out) hb); replace HO331 := AM_ (Kd.R_below (RF HO331.out BK336.out) hb); replace HO334 := AM_ (Kd.R_below (RF HO334.out BK336.out) hb); have HO339 := AM_ (Kd.R_lower (Kd.R_new' ho0 (Kd.R_lt (RF HO321.out BK336.out))) (below_size (BT HB.out))); replace HO321 := AM_ (Kd.R_elder' (RF HO321.out BK336.out) (Kd.R_base ho0) hb); replace BK303 := AM_ (BF BK303.out NB303_336.out hb); replace BK336 := AM_ (BP #[.bool t322, .slice Ao119 t323.length co119, .slice Ao120 t326.length co120, .slice Ao121 t329.length co121, .slice Ao122 t332.length co122, .int .i64 t335] BK336.out hb); replace HB := AM_ (below_step (BT HB.out) hb); (try clear hb); (try clear hb2); (try clear hk); (try clear hi); (try clear ho0); obtain ⟨Ao124, co124, eo124⟩ := Kd.R_slice HO339.out; subst eo124; obtain ⟨Ao125, co125, eo125⟩ := Kd.R_slice HO321.out; subst eo125) | ((with_reducible refine gate_callee (f := 68) rfl ?_); refine goesL_ (some 29) rfl rfl Try.func68 (by kernel_rfl) rfl #[.slice Ao124 t337.length co124, .slice Ao125 t319.length co125] rfl (by (try simp only [List.map_toArray, List.map_cons, List.map_nil]); first | done | rfl | (simp only [List.length_drop, List.length_take]; rfl)) ?_; (with_reducible refine (laws_eqIntS.calls k _ _ t337 _ _ t319 true _ ?side1 ?side2 ?side3 ?side4 A12.out).mono ?_); (case side1 => exact Kd.C_below (Kd.R_reads' HO339.out).2.2 (BL (Below.refl _ _) rfl rfl rfl rfl)); (case side2 => exact (Kd.R_reads' HO339.out).2.1); (case side3 => exact Kd.C_below (Kd.R_reads' HO321.out).2.2 (BL (Below.refl _ _) rfl rfl rfl rfl)); (case side4 => exact (Kd.R_reads' HO321.out).2.1); rintro e w' ⟨rfl, ⟨nd, rfl⟩⟩; refine ⟨_, rfl, ?_⟩))
  (try (rw [drewN_self w123]; generalize hq_ : World.drewN w123 _ = w123; have n0_ : Aside0 (Kd.S (Kd.slice 76 k76) 90 w123 w.heap.size (fun k_ => some k_ ≠ (.slice Ao119 t323.length co119 : Value).ownBlock) (.slice Ao109 t306.length co109) t306) := ⟨by rw [← hq_]; exact (by (with_reducible repeat (first | apply Kd.S_alloc | apply Kd.S_drewN | apply Kd.S_drew)); exact Kd.S_mono HO308.out (fun _ hk => hk.2))⟩; have n1_ : Aside0 (Kd.S k68 68 w123 w.heap.size (fun k_ => some k_ ≠ (.slice Ao120 t326.length co120 : Value).ownBlock) (.slice Ao110 t309.length co110) t309) := ⟨by rw [← hq_]; exact (by (with_reducible repeat (first | apply Kd.S_alloc | apply Kd.S_drewN | apply Kd.S_drew)); exact Kd.S_mono HO311.out (fun _ hk => hk.2))⟩; have n2_ : Aside0 (Kd.R k150 150 w123 w.heap.size (fun k_ => some k_ ≠ (.slice Ao121 t329.length co121 : Value).ownBlock) (.slice Ao111 t312.length co111) t312) := ⟨by rw [← hq_]; exact (by (with_reducible repeat (first | apply Kd.R_alloc | apply Kd.R_drewN | apply Kd.R_drew)); exact Kd.R_mono HO314.out (fun _ hk => hk.2))⟩; have n3_ : Aside0 (Kd.R k36 36 w123 w.heap.size (fun k_ => some k_ ≠ (.slice Ao122 t332.length co122 : Value).ownBlock) (.slice Ao112 t315.length co112) t315) := ⟨by rw [← hq_]; exact (by (with_reducible repeat (first | apply Kd.R_alloc | apply Kd.R_drewN | apply Kd.R_drew)); exact Kd.R_mono HO317.out (fun _ hk => hk.2))⟩; have n4_ : Aside0 (Kd.R (Kd.int .i64) 3 w123 w.heap.size (fun k_ => some k_ ≠ (.slice Ao124 t337.length co124 : Value).ownBlock) (.slice Ao125 t319.length co125) t319) := ⟨by rw [← hq_]; exact (by (with_reducible repeat (first | apply Kd.R_alloc | apply Kd.R_drewN | apply Kd.R_drew)); exact Kd.R_mono HO321.out (fun _ hk => hk.2))⟩; have n5_ : Aside0 (Kd.S (Kd.slice 76 k76) 90 w123 w.heap.size (fun k_ => some k_ ≠ (.slice Ao109 t306.length co109 : Value).ownBlock) (.slice Ao119 t323.length co119) t323) := ⟨by rw [← hq_]; exact (by (with_reducible repeat (first | apply Kd.S_alloc | apply Kd.S_drewN | apply Kd.S_drew)); exact Kd.S_mono HO325.out (fun _ hk => hk.2))⟩; have n6_ : Aside0 (Kd.S k68 68 w123 w.heap.size (fun k_ => some k_ ≠ (.slice Ao110 t309.length co110 : Value).ownBlock) (.slice Ao120 t326.length co120) t326) := ⟨by rw [← hq_]; exact (by (with_reducible repeat (first | apply Kd.S_alloc | apply Kd.S_drewN | apply Kd.S_drew)); exact Kd.S_mono HO328.out (fun _ hk => hk.2))⟩; have n7_ : Aside0 (Kd.R k150 150 w123 w.heap.size (fun k_ => some k_ ≠ (.slice Ao111 t312.length co111 : Value).ownBlock) (.slice Ao121 t329.length co121) t329) := ⟨by rw [← hq_]; exact (by (with_reducible repeat (first | apply Kd.R_alloc | apply Kd.R_drewN | apply Kd.R_drew)); exact Kd.R_mono HO331.out (fun _ hk => hk.2))⟩; have n8_ : Aside0 (Kd.R k36 36 w123 w.heap.size (fun k_ => some k_ ≠ (.slice Ao112 t315.length co112 : Value).ownBlock) (.slice Ao122 t332.length co122) t332) := ⟨by rw [← hq_]; exact (by (with_reducible repeat (first | apply Kd.R_alloc | apply Kd.R_drewN | apply Kd.R_drew)); exact Kd.R_mono HO334.out (fun _ hk => hk.2))⟩; have n9_ : Aside0 (Kd.R (Kd.int .i64) 3 w123 w.heap.size (fun k_ => some k_ ≠ (.slice Ao125 t319.length co125 : Value).ownBlock) (.slice Ao124 t337.length co124) t337) := ⟨by rw [← hq_]; exact (by (with_reducible repeat (first | apply Kd.R_alloc | apply Kd.R_drewN | apply Kd.R_drew)); exact Kd.R_mono HO339.out (fun _ hk => hk.2))⟩; have n10_ : Aside0 (w123.heap[gb303]? = some (.cells #[.bool a0_0, .slice A0_1 l0_1.length c0_1, .slice A0_2 l0_2.length c0_2, .slice A0_3 l0_3.length c0_3, .slice A0_4 l0_4.length c0_4, .int .i64 a0_5] 44 (0, 0))) := ⟨by rw [← hq_]; exact (by (with_reducible repeat (first | refine blk_drewN ?_ _ | refine blk_drew ?_ | refine blk_alloc ?_ _)); exact BK303.out)⟩; have n11_ : Aside0 (w123.heap[gb336]? = some (.cells #[.bool t322, .slice Ao119 t323.length co119, .slice Ao120 t326.length co120, .slice Ao121 t329.length co121, .slice Ao122 t332.length co122, .int .i64 t335] 53 (0, 0))) := ⟨by rw [← hq_]; exact (by (with_reducible repeat (first | refine blk_drewN ?_ _ | refine blk_drew ?_ | refine blk_alloc ?_ _)); exact BK336.out)⟩; have n12_ : Aside0 (Below w.heap.size w w123) := ⟨by rw [← hq_]; exact (BT HB.out)⟩; clear HO308 HO311 HO314 HO317 HO321 HO325 HO328 HO331 HO334 HO339 BK303 BK336 HB hq_; have HO308 := n0_; have HO311 := n1_; have HO314 := n2_; have HO317 := n3_; have HO321 := n4_; have HO325 := n5_; have HO328 := n6_; have HO331 := n7_; have HO334 := n8_; have HO339 := n9_; have BK303 := n10_; have BK336 := n11_; have HB := n12_; clear n0_ n1_ n2_ n3_ n4_ n5_ n6_ n7_ n8_ n9_ n10_ n11_ n12_))
  replace HO308 := AM_ (Kd.S_drew HO308.out)
  replace HO311 := AM_ (Kd.S_drew HO311.out)
  replace HO314 := AM_ (Kd.R_drew HO314.out)
  replace HO317 := AM_ (Kd.R_drew HO317.out)
  replace HO321 := AM_ (Kd.R_drew HO321.out)
  replace HO325 := AM_ (Kd.S_drew HO325.out)
  replace HO328 := AM_ (Kd.S_drew HO328.out)
  replace HO331 := AM_ (Kd.R_drew HO331.out)
  replace HO334 := AM_ (Kd.R_drew HO334.out)
  replace HO339 := AM_ (Kd.R_drew HO339.out)
  replace BK303 := AM_ (blk_drew BK303.out)
  replace BK336 := AM_ (blk_drew BK336.out)
  replace HB := AM_ (below_drew1 HB.out)
  refine start_ (n := 5) (S := fun w' => w'.cell? ⟨gb336, 0, none⟩ = some (.bool t322) ∧ w'.cell? ⟨gb336, 1, none⟩ = some (.slice Ao119 t323.length co119) ∧ w'.cell? ⟨gb336, 2, none⟩ = some (.slice Ao120 t326.length co120) ∧ w'.cell? ⟨gb336, 3, none⟩ = some (.slice Ao121 t329.length co121) ∧ w'.cell? ⟨gb336, 4, none⟩ = some (.slice Ao122 t332.length co122) ∧ w'.cell? ⟨gb336, 5, none⟩ = some (.int .i64 t335) ∧ w'.cell? ⟨gb303, 0, none⟩ = some (.bool a0_0) ∧ w'.cell? ⟨gb303, 1, none⟩ = some (.slice A0_1 l0_1.length c0_1) ∧ w'.cell? ⟨gb303, 2, none⟩ = some (.slice A0_2 l0_2.length c0_2) ∧ w'.cell? ⟨gb303, 3, none⟩ = some (.slice A0_3 l0_3.length c0_3) ∧ w'.cell? ⟨gb303, 4, none⟩ = some (.slice A0_4 l0_4.length c0_4) ∧ w'.cell? ⟨gb303, 5, none⟩ = some (.int .i64 a0_5)) (ds := []) (bs 0 5) (by kernel_rfl) rfl rfl ⟨bc BK336.out 0, bc BK336.out 1, bc BK336.out 2, bc BK336.out 3, bc BK336.out 4, bc BK336.out 5, bc BK303.out 0, bc BK303.out 1, bc BK303.out 2, bc BK303.out 3, bc BK303.out 4, bc BK303.out 5⟩ (fun hHeld => ?_)
  generalize w123.drew = w126 at HO308 HO311 HO314 HO317 HO321 HO325 HO328 HO331 HO334 HO339 BK303 BK336 HB hHeld ⊢
  refine take_ (i := 0) (N := some 31) (v := ?_) (a' := ?_) (bs 1 5) rfl rfl (by kernel_rfl) (fun _ _ _ h => h) (Or.inl ⟨by rfl, ?_⟩) hHeld ?_ ?_
  rotate_left
  ·rintro w' ⟨s0, s1, s2, s3, s4, s5, s6, s7, s8, s9, s10, s11⟩
   go_simp
   with_reducible rfl
  rotate_left
  ·simp only [pA, pS, pZ, pK, i64_w, i32_w]
   rfl
  refine take_ (i := 1) (N := some 32) (v := ?_) (a' := ?_) (bs 3 5) rfl rfl (by kernel_rfl) (fun _ _ _ h => h) (Or.inl ⟨by rfl, ?_⟩) hHeld ?_ ?_
  rotate_left
  ·rintro w' ⟨s0, s1, s2, s3, s4, s5, s6, s7, s8, s9, s10, s11⟩
   go_simp
   with_reducible rfl
  rotate_left
  ·simp only [pA, pS, pZ, pK, i64_w, i32_w]
   rfl
  refine one_ (i := 2) (N := some 33) (bs 7 5) rfl rfl (by kernel_rfl) (by decide) (fun K hK => ?_)
  refine goes_ Try.func29 (by kernel_rfl) rfl #[.agg #[.bool a0_0, .slice A0_1 l0_1.length c0_1, .slice A0_2 l0_2.length c0_2, .slice A0_3 l0_3.length c0_3, .slice A0_4 l0_4.length c0_4, .int .i64 a0_5]] (by rfl) rfl rfl (by (try simp only [List.map_toArray, List.map_cons, List.map_nil]); first | done | rfl | (simp only [List.length_drop, List.length_take]; rfl)) ?_
  with_reducible refine (laws_toEngine.calls k a0_0 _ _ l0_1 _ _ l0_2 _ _ l0_3 _ _ l0_4 a0_5 t341 t342 t345 t348 t351 t354 _ ?side1 ?side2 ?side3 ?side4 ?side5 ?side6 ?side7 ?side8 A14.out).mono ?_
  (case side1 => exact CB HR0_1.out HB.out)
  (case side2 => exact HC0_1.out)
  (case side3 => exact CB HR0_2.out HB.out)
  (case side4 => exact HC0_2.out)
  (case side5 => exact CB HR0_3.out HB.out)
  (case side6 => exact HC0_3.out)
  (case side7 => exact CB HR0_4.out HB.out)
  (case side8 => exact HC0_4.out)
  rintro e w127 ⟨v343, v346, v349, v352, rfl, ho0, ho1, ho2, ho3, hb⟩
  refine ⟨_, rfl, ?_⟩
  replace HO321 := AM_ (Kd.R_below (RT HO321.out) hb)
  replace HO339 := AM_ (Kd.R_below (RT HO339.out) hb)
  have HO344 := AM_ (Kd.S_lower (Kd.S_new' (Kd.S_new' ho0 (Kd.S_lt (ST HO308.out))) (Kd.S_lt (ST HO325.out))) (below_size (BT HB.out)))
  replace HO308 := AM_ (Kd.S_elder' (ST HO308.out) (Kd.S_base ho0) hb)
  replace HO325 := AM_ (Kd.S_elder' (ST HO325.out) (Kd.S_base ho0) hb)
  have HO347 := AM_ (Kd.S_lower (Kd.S_new' (Kd.S_new' ho1 (Kd.S_lt (ST HO311.out))) (Kd.S_lt (ST HO328.out))) (below_size (BT HB.out)))
  replace HO311 := AM_ (Kd.S_elder' (ST HO311.out) (Kd.S_base ho1) hb)
  replace HO328 := AM_ (Kd.S_elder' (ST HO328.out) (Kd.S_base ho1) hb)
  have HO350 := AM_ (Kd.R_lower (Kd.R_new' (Kd.R_new' ho2 (Kd.R_lt (RT HO314.out))) (Kd.R_lt (RT HO331.out))) (below_size (BT HB.out)))
  replace HO314 := AM_ (Kd.R_elder' (RT HO314.out) (Kd.R_base ho2) hb)
  replace HO331 := AM_ (Kd.R_elder' (RT HO331.out) (Kd.R_base ho2) hb)
  have HO353 := AM_ (Kd.R_lower (Kd.R_new' (Kd.R_new' ho3 (Kd.R_lt (RT HO317.out))) (Kd.R_lt (RT HO334.out))) (below_size (BT HB.out)))
  replace HO317 := AM_ (Kd.R_elder' (RT HO317.out) (Kd.R_base ho3) hb)
  replace HO334 := AM_ (Kd.R_elder' (RT HO334.out) (Kd.R_base ho3) hb)
  replace BK303 := AM_ (BB BK303.out hb)
  replace BK336 := AM_ (BB BK336.out hb)
  replace HB := AM_ (below_step (BT HB.out) hb)
  (try clear hb)
  (try clear hb2)
  (try clear hk)
  (try clear hi)
  (try clear ho0)
  (try clear ho1)
  (try clear ho2)
  (try clear ho3)
  obtain ⟨Ao128, co128, eo128⟩ := Kd.S_slice HO344.out
  (first | subst eo128 | (injection eo128 with f1_ f2_ f3_; have f4_ := f1_.symm; have f5_ := f3_.symm; clear f1_ f2_ f3_; subst f4_; subst f5_))
  obtain ⟨Ao129, co129, eo129⟩ := Kd.S_slice HO347.out
  (first | subst eo129 | (injection eo129 with f1_ f2_ f3_; have f4_ := f1_.symm; have f5_ := f3_.symm; clear f1_ f2_ f3_; subst f4_; subst f5_))
  obtain ⟨Ao130, co130, eo130⟩ := Kd.R_slice HO350.out
  (first | subst eo130 | (injection eo130 with f1_ f2_ f3_; have f4_ := f1_.symm; have f5_ := f3_.symm; clear f1_ f2_ f3_; subst f4_; subst f5_))
  obtain ⟨Ao131, co131, eo131⟩ := Kd.R_slice HO353.out
  (first | subst eo131 | (injection eo131 with f1_ f2_ f3_; have f4_ := f1_.symm; have f5_ := f3_.symm; clear f1_ f2_ f3_; subst f4_; subst f5_))
  refine hK.out _ _ ⟨bc BK336.out 0, bc BK336.out 1, bc BK336.out 2, bc BK336.out 3, bc BK336.out 4, bc BK336.out 5, bc BK303.out 0, bc BK303.out 1, bc BK303.out 2, bc BK303.out 3, bc BK303.out 4, bc BK303.out 5⟩ (fun hHeld => ?_)
  clear hK K
  refine norm_ (a' := ?_) ?_ ?_
  rotate_left
  ·show Act.put _ (some 33) _ = _
   simp only [pA, pS, pZ, pK, i64_w, i32_w]
   rfl
  refine one_ (i := 3) (N := some 34) (bs 15 5) rfl rfl (by kernel_rfl) (by decide) (fun K hK => ?_)
  refine goes_ Try.func31 (by kernel_rfl) rfl #[.agg #[.bool t322, .slice Ao119 t323.length co119, .slice Ao120 t326.length co120, .slice Ao121 t329.length co121, .slice Ao122 t332.length co122, .int .i64 t335], .agg #[.bool t341, .slice Ao128 t342.length co128, .slice Ao129 t345.length co129, .slice Ao130 t348.length co130, .slice Ao131 t351.length co131, .int .i64 t354]] (by rfl) rfl rfl (by (try simp only [List.map_toArray, List.map_cons, List.map_nil]); first | done | rfl | (simp only [List.length_drop, List.length_take]; rfl)) ?_
  with_reducible refine (laws_eqEngine.calls k t322 _ _ t323 _ _ t326 _ _ t329 _ _ t332 t335 t341 _ _ t342 _ _ t345 _ _ t348 _ _ t351 t354 false _ ?side1 ?side2 ?side3 ?side4 ?side5 ?side6 ?side7 ?side8 ?side9 ?side10 ?side11 ?side12 ?side13 ?side14 ?side15 ?side16 A15.out).mono ?_
  (case side1 => exact Kd.C_below (Kd.S_reads' HO325.out).2.2 (BL (Below.refl _ _) rfl rfl rfl rfl))
  (case side2 => exact (Kd.S_reads' HO325.out).2.1)
  (case side3 => exact Kd.C_below (Kd.S_reads' HO328.out).2.2 (BL (Below.refl _ _) rfl rfl rfl rfl))
  (case side4 => exact (Kd.S_reads' HO328.out).2.1)
  (case side5 => exact Kd.C_below (Kd.R_reads' HO331.out).2.2 (BL (Below.refl _ _) rfl rfl rfl rfl))
  (case side6 => exact (Kd.R_reads' HO331.out).2.1)
  (case side7 => exact Kd.C_below (Kd.R_reads' HO334.out).2.2 (BL (Below.refl _ _) rfl rfl rfl rfl))
  (case side8 => exact (Kd.R_reads' HO334.out).2.1)
  (case side9 => exact Kd.C_below (Kd.S_reads' HO344.out).2.2 (BL (Below.refl _ _) rfl rfl rfl rfl))
  (case side10 => exact (Kd.S_reads' HO344.out).2.1)
  (case side11 => exact Kd.C_below (Kd.S_reads' HO347.out).2.2 (BL (Below.refl _ _) rfl rfl rfl rfl))
  (case side12 => exact (Kd.S_reads' HO347.out).2.1)
  (case side13 => exact Kd.C_below (Kd.R_reads' HO350.out).2.2 (BL (Below.refl _ _) rfl rfl rfl rfl))
  (case side14 => exact (Kd.R_reads' HO350.out).2.1)
  (case side15 => exact Kd.C_below (Kd.R_reads' HO353.out).2.2 (BL (Below.refl _ _) rfl rfl rfl rfl))
  (case side16 => exact (Kd.R_reads' HO353.out).2.1)
  rintro e w132 ⟨rfl, hb⟩
  refine ⟨_, rfl, ?_⟩
  replace HO308 := AM_ (Kd.S_below (ST HO308.out) hb)
  replace HO311 := AM_ (Kd.S_below (ST HO311.out) hb)
  replace HO314 := AM_ (Kd.R_below (RT HO314.out) hb)
  replace HO317 := AM_ (Kd.R_below (RT HO317.out) hb)
  replace HO321 := AM_ (Kd.R_below (RT HO321.out) hb)
  replace HO325 := AM_ (Kd.S_below (ST HO325.out) hb)
  replace HO328 := AM_ (Kd.S_below (ST HO328.out) hb)
  replace HO331 := AM_ (Kd.R_below (RT HO331.out) hb)
  replace HO334 := AM_ (Kd.R_below (RT HO334.out) hb)
  replace HO339 := AM_ (Kd.R_below (RT HO339.out) hb)
  replace HO344 := AM_ (Kd.S_below (ST HO344.out) hb)
  replace HO347 := AM_ (Kd.S_below (ST HO347.out) hb)
  replace HO350 := AM_ (Kd.R_below (RT HO350.out) hb)
  replace HO353 := AM_ (Kd.R_below (RT HO353.out) hb)
  replace BK303 := AM_ (BB BK303.out hb)
  replace BK336 := AM_ (BB BK336.out hb)
  replace HB := AM_ (below_step (BT HB.out) hb)
  (try clear hb)
  (try clear hb2)
  (try clear hk)
  (try clear hi)
  refine hK.out _ _ ⟨bc BK336.out 0, bc BK336.out 1, bc BK336.out 2, bc BK336.out 3, bc BK336.out 4, bc BK336.out 5, bc BK303.out 0, bc BK303.out 1, bc BK303.out 2, bc BK303.out 3, bc BK303.out 4, bc BK303.out 5⟩ (fun hHeld => ?_)
  clear hK K
  refine norm_ (a' := ?_) ?_ ?_
  rotate_left
  ·show Act.put _ (some 34) _ = _
   simp only [pA, pS, pZ, pK, i64_w, i32_w]
   rfl
  refine pure_ (i := 4) (N := some 35) (v := ?_) (a' := ?_) (bs 31 5) rfl rfl (by kernel_rfl) (fun _ _ _ h => h) (Or.inl ⟨by rfl, ?_⟩) ?_ ?_
  rotate_left
  ·intro w'
   go_simp
   with_reducible rfl
  rotate_left
  ·simp only [pA, pS, pZ, pK, i64_w, i32_w]
   rfl
  refine done_ (by kernel_rfl) ?_
  try go_wp2
  go_ret
  exact QT (BT HB.out)
 subst c16
 have H1 : ((laws_markEngine.f k t322 t323 t326 t329 t332 t335 1).bind fun t356 => (if t356 < 0 then (laws_FnExactTransactionIDs.j0 k a1 t319 t337 true a0_0 l0_1 l0_2 l0_3 l0_4 a0_5) else ((laws_eqIntS.f k t337 t319).bind fun t357 => (laws_FnExactTransactionIDs.j0 k a1 t319 t337 (!t357) a0_0 l0_1 l0_2 l0_3 l0_4 a0_5)))) = some r := by rw [if_pos rfl] at H; exact H
 clear H
 have H := H1
 clear H1
 replace H := Option.bind_eq_some_iff.mp H
 obtain ⟨t356, A170, H⟩ := H
 replace H : (if t356 < 0 then (laws_FnExactTransactionIDs.j0 k a1 t319 t337 true a0_0 l0_1 l0_2 l0_3 l0_4 a0_5) else ((laws_eqIntS.f k t337 t319).bind fun t357 => (laws_FnExactTransactionIDs.j0 k a1 t319 t337 (!t357) a0_0 l0_1 l0_2 l0_3 l0_4 a0_5))) = some r := H
 have A17 := AM_ A170
 clear A170
 have HC18 := AM_ H
 clear H
 go_enter Try.func12, Try.ntmps12
 try go_wp2_with (first | ((with_reducible refine gate_dst (N := 2) rfl ?_); refine box_event ?hg (N := 2) ?hd (cs := #[.bool a0_0, .slice A0_1 l0_1.length c0_1, .slice A0_2 l0_2.length c0_2, .slice A0_3 l0_3.length c0_3, .slice A0_4 l0_4.length c0_4, .int .i64 a0_5]) (t := 44) ?hr ?_; (case hd => rfl); (case hg => rfl); (case hr => first | (go_simp; done) | (go_simp; rfl)); intro gb303 hg w19 hbox hb; have BK303 := AM_ (hbox); have GW303 := AM_ ((GS HB.out hg)); have GE303 := AM_ ((GS HB.out hg)); replace HB := AM_ (below_step (BT HB.out) hb); clear hb hbox hg; obtain ⟨hcz20_0, hcz20_1, hcz20_2, hcz20_3, hcz20_4, hcz20_5, hfz20_0, hfz20_1, hfz20_2, hfz20_3, hfz20_4, hfz20_5⟩ := bk6 BK303.out) | ((with_reducible refine gate_callee (f := 27) rfl ?_); refine goesL_ (some 15) rfl rfl Try.func27 (by kernel_rfl) rfl #[.agg #[.bool a0_0, .slice A0_1 l0_1.length c0_1, .slice A0_2 l0_2.length c0_2, .slice A0_3 l0_3.length c0_3, .slice A0_4 l0_4.length c0_4, .int .i64 a0_5], .int .i64 1048576] rfl (by (try simp only [List.map_toArray, List.map_cons, List.map_nil]); first | done | rfl | (simp only [List.length_drop, List.length_take]; rfl)) ?_; (with_reducible refine (laws_szEngine.calls k a0_0 _ _ l0_1 _ _ l0_2 _ _ l0_3 _ _ l0_4 a0_5 1048576 t304 _ ?side1 ?side2 ?side3 ?side4 ?side5 ?side6 ?side7 ?side8 A3.out).mono ?_); (case side1 => exact CB HR0_1.out HB.out); (case side2 => exact HC0_1.out); (case side3 => exact CB HR0_2.out HB.out); (case side4 => exact HC0_2.out); (case side5 => exact CB HR0_3.out HB.out); (case side6 => exact HC0_3.out); (case side7 => exact CB HR0_4.out HB.out); (case side8 => exact HC0_4.out); rintro e w21 ⟨rfl, hb⟩; refine ⟨_, rfl, ?_⟩; replace BK303 := AM_ (BB BK303.out hb); replace HB := AM_ (below_step (BT HB.out) hb); (try clear hb); (try clear hb2); (try clear hk); (try clear hi); obtain ⟨hcz22_0, hcz22_1, hcz22_2, hcz22_3, hcz22_4, hcz22_5, hfz22_0, hfz22_1, hfz22_2, hfz22_3, hfz22_4, hfz22_5⟩ := bk6 BK303.out) | ((with_reducible refine gate_callee (f := 29) rfl ?_); refine goesL_ (some 19) rfl rfl Try.func29 (by kernel_rfl) rfl #[.agg #[.bool a0_0, .slice A0_1 l0_1.length c0_1, .slice A0_2 l0_2.length c0_2, .slice A0_3 l0_3.length c0_3, .slice A0_4 l0_4.length c0_4, .int .i64 a0_5]] rfl (by (try simp only [List.map_toArray, List.map_cons, List.map_nil]); first | done | rfl | (simp only [List.length_drop, List.length_take]; rfl)) ?_; (with_reducible refine (laws_toEngine.calls k a0_0 _ _ l0_1 _ _ l0_2 _ _ l0_3 _ _ l0_4 a0_5 t305 t306 t309 t312 t315 t318 _ ?side1 ?side2 ?side3 ?side4 ?side5 ?side6 ?side7 ?side8 A8.out).mono ?_); (case side1 => exact CB HR0_1.out HB.out); (case side2 => exact HC0_1.out); (case side3 => exact CB HR0_2.out HB.out); (case side4 => exact HC0_2.out); (case side5 => exact CB HR0_3.out HB.out); (case side6 => exact HC0_3.out); (case side7 => exact CB HR0_4.out HB.out); (case side8 => exact HC0_4.out); rintro e w23 ⟨v307, v310, v313, v316, rfl, ho0, ho1, ho2, ho3, hb⟩; refine ⟨_, rfl, ?_⟩; have HO308 := AM_ (Kd.S_lower ho0 (below_size (BT HB.out))); have HO311 := AM_ (Kd.S_lower ho1 (below_size (BT HB.out))); have HO314 := AM_ (Kd.R_lower ho2 (below_size (BT HB.out))); have HO317 := AM_ (Kd.R_lower ho3 (below_size (BT HB.out))); replace BK303 := AM_ (BB BK303.out hb); replace HB := AM_ (below_step (BT HB.out) hb); (try clear hb); (try clear hb2); (try clear hk); (try clear hi); (try clear ho0); (try clear ho1); (try clear ho2); (try clear ho3); obtain ⟨Ao24, co24, eo24⟩ := Kd.S_slice HO308.out; subst eo24; obtain ⟨Ao25, co25, eo25⟩ := Kd.S_slice HO311.out; subst eo25; obtain ⟨Ao26, co26, eo26⟩ := Kd.R_slice HO314.out; subst eo26; obtain ⟨Ao27, co27, eo27⟩ := Kd.R_slice HO317.out; subst eo27) | ((with_reducible refine gate_callee (f := 66) rfl ?_); refine goesL_ (some 21) rfl rfl Try.func66 (by kernel_rfl) rfl #[.agg #[.bool t305, .slice Ao24 t306.length co24, .slice Ao25 t309.length co25, .slice Ao26 t312.length co26, .slice Ao27 t315.length co27, .int .i64 t318], .int .i64 a1] rfl (by (try simp only [List.map_toArray, List.map_cons, List.map_nil]); first | done | rfl | (simp only [List.length_drop, List.length_take]; rfl)) ?_; (with_reducible refine (spec_TransactionIDs.calls k t305 _ _ t306 _ _ t309 _ _ t312 _ _ t315 t318 a1 t319 _ ?side1 ?side2 ?side3 ?side4 ?side5 ?side6 ?side7 ?side8 A9.out).mono ?_); (case side1 => exact Kd.C_below (Kd.S_reads' HO308.out).2.2 (BL (Below.refl _ _) rfl rfl rfl rfl)); (case side2 => exact (Kd.S_reads' HO308.out).2.1); (case side3 => exact Kd.C_below (Kd.S_reads' HO311.out).2.2 (BL (Below.refl _ _) rfl rfl rfl rfl)); (case side4 => exact (Kd.S_reads' HO311.out).2.1); (case side5 => exact Kd.C_below (Kd.R_reads' HO314.out).2.2 (BL (Below.refl _ _) rfl rfl rfl rfl)); (case side6 => exact (Kd.R_reads' HO314.out).2.1); (case side7 => exact Kd.C_below (Kd.R_reads' HO317.out).2.2 (BL (Below.refl _ _) rfl rfl rfl rfl)); (case side8 => exact (Kd.R_reads' HO317.out).2.1); rintro e w28 ⟨v320, rfl, ho0, hb⟩; refine ⟨_, rfl, ?_⟩; replace HO308 := AM_ (Kd.S_below (ST HO308.out) hb); replace HO311 := AM_ (Kd.S_below (ST HO311.out) hb); replace HO314 := AM_ (Kd.R_below (RT HO314.out) hb); replace HO317 := AM_ (Kd.R_below (RT HO317.out) hb); have HO321 := AM_ (Kd.R_lower ho0 (below_size (BT HB.out))); replace BK303 := AM_ (BB BK303.out hb); replace HB := AM_ (below_step (BT HB.out) hb); (try clear hb); (try clear hb2); (try clear hk); (try clear hi); (try clear ho0); obtain ⟨hcz29_0, hcz29_1, hcz29_2, hcz29_3, hcz29_4, hcz29_5, hfz29_0, hfz29_1, hfz29_2, hfz29_3, hfz29_4, hfz29_5⟩ := bk6 BK303.out) | ((with_reducible refine gate_callee (f := 29) rfl ?_); refine goesL_ (some 23) rfl rfl Try.func29 (by kernel_rfl) rfl #[.agg #[.bool a0_0, .slice A0_1 l0_1.length c0_1, .slice A0_2 l0_2.length c0_2, .slice A0_3 l0_3.length c0_3, .slice A0_4 l0_4.length c0_4, .int .i64 a0_5]] rfl (by (try simp only [List.map_toArray, List.map_cons, List.map_nil]); first | done | rfl | (simp only [List.length_drop, List.length_take]; rfl)) ?_; (with_reducible refine (laws_toEngine.calls k a0_0 _ _ l0_1 _ _ l0_2 _ _ l0_3 _ _ l0_4 a0_5 t322 t323 t326 t329 t332 t335 _ ?side1 ?side2 ?side3 ?side4 ?side5 ?side6 ?side7 ?side8 A10.out).mono ?_); (case side1 => exact CB HR0_1.out HB.out); (case side2 => exact HC0_1.out); (case side3 => exact CB HR0_2.out HB.out); (case side4 => exact HC0_2.out); (case side5 => exact CB HR0_3.out HB.out); (case side6 => exact HC0_3.out); (case side7 => exact CB HR0_4.out HB.out); (case side8 => exact HC0_4.out); rintro e w30 ⟨v324, v327, v330, v333, rfl, ho0, ho1, ho2, ho3, hb⟩; refine ⟨_, rfl, ?_⟩; replace HO321 := AM_ (Kd.R_below (RT HO321.out) hb); have HO325 := AM_ (Kd.S_lower (Kd.S_new' ho0 (Kd.S_lt (ST HO308.out))) (below_size (BT HB.out))); replace HO308 := AM_ (Kd.S_elder' (ST HO308.out) (Kd.S_base ho0) hb); have HO328 := AM_ (Kd.S_lower (Kd.S_new' ho1 (Kd.S_lt (ST HO311.out))) (below_size (BT HB.out))); replace HO311 := AM_ (Kd.S_elder' (ST HO311.out) (Kd.S_base ho1) hb); have HO331 := AM_ (Kd.R_lower (Kd.R_new' ho2 (Kd.R_lt (RT HO314.out))) (below_size (BT HB.out))); replace HO314 := AM_ (Kd.R_elder' (RT HO314.out) (Kd.R_base ho2) hb); have HO334 := AM_ (Kd.R_lower (Kd.R_new' ho3 (Kd.R_lt (RT HO317.out))) (below_size (BT HB.out))); replace HO317 := AM_ (Kd.R_elder' (RT HO317.out) (Kd.R_base ho3) hb); replace BK303 := AM_ (BB BK303.out hb); replace HB := AM_ (below_step (BT HB.out) hb); (try clear hb); (try clear hb2); (try clear hk); (try clear hi); (try clear ho0); (try clear ho1); (try clear ho2); (try clear ho3)) | ((with_reducible refine gate_dst (N := 7) rfl ?_); refine box_event ?hg (N := 7) ?hd (cs := #[.bool false, .slice none 0 0, .slice none 0 0, .slice none 0 0, .slice none 0 0, .int .i64 0]) (t := 53) ?hr ?_; (case hd => rfl); (case hg => rfl); (case hr => first | (go_simp; done) | (go_simp; rfl)); intro gb336 hg w31 hbox hb; replace HO308 := AM_ (Kd.S_below (ST HO308.out) hb); replace HO311 := AM_ (Kd.S_below (ST HO311.out) hb); replace HO314 := AM_ (Kd.R_below (RT HO314.out) hb); replace HO317 := AM_ (Kd.R_below (RT HO317.out) hb); replace HO321 := AM_ (Kd.R_below (RT HO321.out) hb); replace HO325 := AM_ (Kd.S_below (ST HO325.out) hb); replace HO328 := AM_ (Kd.S_below (ST HO328.out) hb); replace HO331 := AM_ (Kd.R_below (RT HO331.out) hb); replace HO334 := AM_ (Kd.R_below (RT HO334.out) hb); have BK336 := AM_ (hbox); have GW336 := AM_ ((GS HB.out hg)); have GE336 := AM_ ((GS HB.out hg)); replace HB := AM_ (below_step (BT HB.out) hb); have NB303_336 := AM_ ((NL BK303.out hg)); have NB336_303 := AM_ ((NG BK303.out hg)); replace BK303 := AM_ (BB BK303.out hb); clear hb hbox hg; have hnb32 := NB336_303.out; have hnc32 := NB303_336.out; obtain ⟨hcz33_0, hcz33_1, hcz33_2, hcz33_3, hcz33_4, hcz33_5, hfz33_0, hfz33_1, hfz33_2, hfz33_3, hfz33_4, hfz33_5⟩ := bk6 BK336.out; obtain ⟨Ao34, co34, eo34⟩ := Kd.S_slice HO325.out; subst eo34; obtain ⟨Ao35, co35, eo35⟩ := Kd.S_slice HO328.out; subst eo35; obtain ⟨Ao36, co36, eo36⟩ := Kd.R_slice HO331.out; subst eo36; obtain ⟨Ao37, co37, eo37⟩ := Kd.R_slice HO334.out; subst eo37) | ((with_reducible refine gate_callee (f := 67) rfl ?_); refine goesL_ (some 26) rfl rfl Try.func67 (by kernel_rfl) rfl #[.agg #[.bool t322, .slice Ao34 t323.length co34, .slice Ao35 t326.length co35, .slice Ao36 t329.length co36, .slice Ao37 t332.length co37, .int .i64 t335], .int .i64 a1] rfl (by (try simp only [List.map_toArray, List.map_cons, List.map_nil]); first | done | rfl | (simp only [List.length_drop, List.length_take]; rfl)) ?_; (with_reducible refine (impl_TransactionIDs.calls k t322 _ _ t323 _ _ t326 _ _ t329 _ _ t332 t335 a1 t337 _ ?side1 ?side2 ?side3 ?side4 ?side5 ?side6 ?side7 ?side8 A11.out).mono ?_); (case side1 => exact CG HO325.out BK336.out); (case side2 => exact (Kd.S_reads' HO325.out).2.1); (case side3 => exact CG HO328.out BK336.out); (case side4 => exact (Kd.S_reads' HO328.out).2.1); (case side5 => exact CF HO331.out BK336.out); (case side6 => exact (Kd.R_reads' HO331.out).2.1); (case side7 => exact CF HO334.out BK336.out); (case side8 => exact (Kd.R_reads' HO334.out).2.1); rintro e w38 ⟨v338, rfl, ho0, hb⟩; refine ⟨_, rfl, ?_⟩; replace HO308 := AM_ (Kd.S_below (SF HO308.out BK336.out) hb); replace HO311 := AM_ (Kd.S_below (SF HO311.out BK336.out) hb); replace HO314 := AM_ (Kd.R_below (RF HO314.out BK336.out) hb); replace HO317 := AM_ (Kd.R_below (RF HO317.out BK336.out) hb); replace HO325 := AM_ (Kd.S_below (SF HO325.out BK336.out) hb); replace HO328 := AM_ (Kd.S_below (SF HO328.out BK336.out) hb); replace HO331 := AM_ (Kd.R_below (RF HO331.out BK336.out) hb); replace HO334 := AM_ (Kd.R_below (RF HO334.out BK336.out) hb); have HO339 := AM_ (Kd.R_lower (Kd.R_new' ho0 (Kd.R_lt (RF HO321.out BK336.out))) (below_size (BT HB.out))); replace HO321 := AM_ (Kd.R_elder' (RF HO321.out BK336.out) (Kd.R_base ho0) hb); replace BK303 := AM_ (BF BK303.out NB303_336.out hb); replace BK336 := AM_ (BP #[.bool t322, .slice Ao34 t323.length co34, .slice Ao35 t326.length co35, .slice Ao36 t329.length co36, .slice Ao37 t332.length co37, .int .i64 t335] BK336.out hb); replace HB := AM_ (below_step (BT HB.out) hb); (try clear hb); (try clear hb2); (try clear hk); (try clear hi); (try clear ho0); obtain ⟨Ao39, co39, eo39⟩ := Kd.R_slice HO339.out; subst eo39; obtain ⟨Ao40, co40, eo40⟩ := Kd.R_slice HO321.out; subst eo40) | ((with_reducible refine gate_callee (f := 68) rfl ?_); refine goesL_ (some 29) rfl rfl Try.func68 (by kernel_rfl) rfl #[.slice Ao39 t337.length co39, .slice Ao40 t319.length co40] rfl (by (try simp only [List.map_toArray, List.map_cons, List.map_nil]); first | done | rfl | (simp only [List.length_drop, List.length_take]; rfl)) ?_; (with_reducible refine (laws_eqIntS.calls k _ _ t337 _ _ t319 true _ ?side1 ?side2 ?side3 ?side4 A12.out).mono ?_); (case side1 => exact Kd.C_below (Kd.R_reads' HO339.out).2.2 (BL (Below.refl _ _) rfl rfl rfl rfl)); (case side2 => exact (Kd.R_reads' HO339.out).2.1); (case side3 => exact Kd.C_below (Kd.R_reads' HO321.out).2.2 (BL (Below.refl _ _) rfl rfl rfl rfl)); (case side4 => exact (Kd.R_reads' HO321.out).2.1); rintro e w' ⟨rfl, ⟨nd, rfl⟩⟩; refine ⟨_, rfl, ?_⟩))
 (try (rw [drewN_self w38]; generalize hq_ : World.drewN w38 _ = w38; have n0_ : Aside0 (Kd.S (Kd.slice 76 k76) 90 w38 w.heap.size (fun k_ => some k_ ≠ (.slice Ao34 t323.length co34 : Value).ownBlock) (.slice Ao24 t306.length co24) t306) := ⟨by rw [← hq_]; exact (by (with_reducible repeat (first | apply Kd.S_alloc | apply Kd.S_drewN | apply Kd.S_drew)); exact Kd.S_mono HO308.out (fun _ hk => hk.2))⟩; have n1_ : Aside0 (Kd.S k68 68 w38 w.heap.size (fun k_ => some k_ ≠ (.slice Ao35 t326.length co35 : Value).ownBlock) (.slice Ao25 t309.length co25) t309) := ⟨by rw [← hq_]; exact (by (with_reducible repeat (first | apply Kd.S_alloc | apply Kd.S_drewN | apply Kd.S_drew)); exact Kd.S_mono HO311.out (fun _ hk => hk.2))⟩; have n2_ : Aside0 (Kd.R k150 150 w38 w.heap.size (fun k_ => some k_ ≠ (.slice Ao36 t329.length co36 : Value).ownBlock) (.slice Ao26 t312.length co26) t312) := ⟨by rw [← hq_]; exact (by (with_reducible repeat (first | apply Kd.R_alloc | apply Kd.R_drewN | apply Kd.R_drew)); exact Kd.R_mono HO314.out (fun _ hk => hk.2))⟩; have n3_ : Aside0 (Kd.R k36 36 w38 w.heap.size (fun k_ => some k_ ≠ (.slice Ao37 t332.length co37 : Value).ownBlock) (.slice Ao27 t315.length co27) t315) := ⟨by rw [← hq_]; exact (by (with_reducible repeat (first | apply Kd.R_alloc | apply Kd.R_drewN | apply Kd.R_drew)); exact Kd.R_mono HO317.out (fun _ hk => hk.2))⟩; have n4_ : Aside0 (Kd.R (Kd.int .i64) 3 w38 w.heap.size (fun k_ => some k_ ≠ (.slice Ao39 t337.length co39 : Value).ownBlock) (.slice Ao40 t319.length co40) t319) := ⟨by rw [← hq_]; exact (by (with_reducible repeat (first | apply Kd.R_alloc | apply Kd.R_drewN | apply Kd.R_drew)); exact Kd.R_mono HO321.out (fun _ hk => hk.2))⟩; have n5_ : Aside0 (Kd.S (Kd.slice 76 k76) 90 w38 w.heap.size (fun k_ => some k_ ≠ (.slice Ao24 t306.length co24 : Value).ownBlock) (.slice Ao34 t323.length co34) t323) := ⟨by rw [← hq_]; exact (by (with_reducible repeat (first | apply Kd.S_alloc | apply Kd.S_drewN | apply Kd.S_drew)); exact Kd.S_mono HO325.out (fun _ hk => hk.2))⟩; have n6_ : Aside0 (Kd.S k68 68 w38 w.heap.size (fun k_ => some k_ ≠ (.slice Ao25 t309.length co25 : Value).ownBlock) (.slice Ao35 t326.length co35) t326) := ⟨by rw [← hq_]; exact (by (with_reducible repeat (first | apply Kd.S_alloc | apply Kd.S_drewN | apply Kd.S_drew)); exact Kd.S_mono HO328.out (fun _ hk => hk.2))⟩; have n7_ : Aside0 (Kd.R k150 150 w38 w.heap.size (fun k_ => some k_ ≠ (.slice Ao26 t312.length co26 : Value).ownBlock) (.slice Ao36 t329.length co36) t329) := ⟨by rw [← hq_]; exact (by (with_reducible repeat (first | apply Kd.R_alloc | apply Kd.R_drewN | apply Kd.R_drew)); exact Kd.R_mono HO331.out (fun _ hk => hk.2))⟩; have n8_ : Aside0 (Kd.R k36 36 w38 w.heap.size (fun k_ => some k_ ≠ (.slice Ao27 t315.length co27 : Value).ownBlock) (.slice Ao37 t332.length co37) t332) := ⟨by rw [← hq_]; exact (by (with_reducible repeat (first | apply Kd.R_alloc | apply Kd.R_drewN | apply Kd.R_drew)); exact Kd.R_mono HO334.out (fun _ hk => hk.2))⟩; have n9_ : Aside0 (Kd.R (Kd.int .i64) 3 w38 w.heap.size (fun k_ => some k_ ≠ (.slice Ao40 t319.length co40 : Value).ownBlock) (.slice Ao39 t337.length co39) t337) := ⟨by rw [← hq_]; exact (by (with_reducible repeat (first | apply Kd.R_alloc | apply Kd.R_drewN | apply Kd.R_drew)); exact Kd.R_mono HO339.out (fun _ hk => hk.2))⟩; have n10_ : Aside0 (w38.heap[gb303]? = some (.cells #[.bool a0_0, .slice A0_1 l0_1.length c0_1, .slice A0_2 l0_2.length c0_2, .slice A0_3 l0_3.length c0_3, .slice A0_4 l0_4.length c0_4, .int .i64 a0_5] 44 (0, 0))) := ⟨by rw [← hq_]; exact (by (with_reducible repeat (first | refine blk_drewN ?_ _ | refine blk_drew ?_ | refine blk_alloc ?_ _)); exact BK303.out)⟩; have n11_ : Aside0 (w38.heap[gb336]? = some (.cells #[.bool t322, .slice Ao34 t323.length co34, .slice Ao35 t326.length co35, .slice Ao36 t329.length co36, .slice Ao37 t332.length co37, .int .i64 t335] 53 (0, 0))) := ⟨by rw [← hq_]; exact (by (with_reducible repeat (first | refine blk_drewN ?_ _ | refine blk_drew ?_ | refine blk_alloc ?_ _)); exact BK336.out)⟩; have n12_ : Aside0 (Below w.heap.size w w38) := ⟨by rw [← hq_]; exact (BT HB.out)⟩; clear HO308 HO311 HO314 HO317 HO321 HO325 HO328 HO331 HO334 HO339 BK303 BK336 HB hq_; have HO308 := n0_; have HO311 := n1_; have HO314 := n2_; have HO317 := n3_; have HO321 := n4_; have HO325 := n5_; have HO328 := n6_; have HO331 := n7_; have HO334 := n8_; have HO339 := n9_; have BK303 := n10_; have BK336 := n11_; have HB := n12_; clear n0_ n1_ n2_ n3_ n4_ n5_ n6_ n7_ n8_ n9_ n10_ n11_ n12_))
 replace HO308 := AM_ (Kd.S_drew HO308.out)
 replace HO311 := AM_ (Kd.S_drew HO311.out)
 replace HO314 := AM_ (Kd.R_drew HO314.out)
 replace HO317 := AM_ (Kd.R_drew HO317.out)
 replace HO321 := AM_ (Kd.R_drew HO321.out)
 replace HO325 := AM_ (Kd.S_drew HO325.out)
 replace HO328 := AM_ (Kd.S_drew HO328.out)
 replace HO331 := AM_ (Kd.R_drew HO331.out)
 replace HO334 := AM_ (Kd.R_drew HO334.out)
 replace HO339 := AM_ (Kd.R_drew HO339.out)
 replace BK303 := AM_ (blk_drew BK303.out)
 replace BK336 := AM_ (blk_drew BK336.out)
 replace HB := AM_ (below_drew1 HB.out)
 refine start_ (n := 5) (S := fun w' => w'.cell? ⟨gb336, 0, none⟩ = some (.bool t322) ∧ w'.cell? ⟨gb336, 1, none⟩ = some (.slice Ao34 t323.length co34) ∧ w'.cell? ⟨gb336, 2, none⟩ = some (.slice Ao35 t326.length co35) ∧ w'.cell? ⟨gb336, 3, none⟩ = some (.slice Ao36 t329.length co36) ∧ w'.cell? ⟨gb336, 4, none⟩ = some (.slice Ao37 t332.length co37) ∧ w'.cell? ⟨gb336, 5, none⟩ = some (.int .i64 t335) ∧ w'.cell? ⟨gb303, 0, none⟩ = some (.bool a0_0) ∧ w'.cell? ⟨gb303, 1, none⟩ = some (.slice A0_1 l0_1.length c0_1) ∧ w'.cell? ⟨gb303, 2, none⟩ = some (.slice A0_2 l0_2.length c0_2) ∧ w'.cell? ⟨gb303, 3, none⟩ = some (.slice A0_3 l0_3.length c0_3) ∧ w'.cell? ⟨gb303, 4, none⟩ = some (.slice A0_4 l0_4.length c0_4) ∧ w'.cell? ⟨gb303, 5, none⟩ = some (.int .i64 a0_5)) (ds := []) (bs 0 5) (by kernel_rfl) rfl rfl ⟨bc BK336.out 0, bc BK336.out 1, bc BK336.out 2, bc BK336.out 3, bc BK336.out 4, bc BK336.out 5, bc BK303.out 0, bc BK303.out 1, bc BK303.out 2, bc BK303.out 3, bc BK303.out 4, bc BK303.out 5⟩ (fun hHeld => ?_)
 generalize w38.drew = w41 at HO308 HO311 HO314 HO317 HO321 HO325 HO328 HO331 HO334 HO339 BK303 BK336 HB hHeld ⊢
 refine take_ (i := 0) (N := some 31) (v := ?_) (a' := ?_) (bs 1 5) rfl rfl (by kernel_rfl) (fun _ _ _ h => h) (Or.inl ⟨by rfl, ?_⟩) hHeld ?_ ?_
 rotate_left
 ·rintro w' ⟨s0, s1, s2, s3, s4, s5, s6, s7, s8, s9, s10, s11⟩
  go_simp
  with_reducible rfl
 rotate_left
 ·simp only [pA, pS, pZ, pK, i64_w, i32_w]
  rfl
 refine take_ (i := 1) (N := some 32) (v := ?_) (a' := ?_) (bs 3 5) rfl rfl (by kernel_rfl) (fun _ _ _ h => h) (Or.inl ⟨by rfl, ?_⟩) hHeld ?_ ?_
 rotate_left
 ·rintro w' ⟨s0, s1, s2, s3, s4, s5, s6, s7, s8, s9, s10, s11⟩
  go_simp
  with_reducible rfl
 rotate_left
 ·simp only [pA, pS, pZ, pK, i64_w, i32_w]
  rfl
 refine one_ (i := 2) (N := some 33) (bs 7 5) rfl rfl (by kernel_rfl) (by decide) (fun K hK => ?_)
 refine goes_ Try.func29 (by kernel_rfl) rfl #[.agg #[.bool a0_0, .slice A0_1 l0_1.length c0_1, .slice A0_2 l0_2.length c0_2, .slice A0_3 l0_3.length c0_3, .slice A0_4 l0_4.length c0_4, .int .i64 a0_5]] (by rfl) rfl rfl (by (try simp only [List.map_toArray, List.map_cons, List.map_nil]); first | done | rfl | (simp only [List.length_drop, List.length_take]; rfl)) ?_
 with_reducible refine (laws_toEngine.calls k a0_0 _ _ l0_1 _ _ l0_2 _ _ l0_3 _ _ l0_4 a0_5 t341 t342 t345 t348 t351 t354 _ ?side1 ?side2 ?side3 ?side4 ?side5 ?side6 ?side7 ?side8 A14.out).mono ?_
 (case side1 => exact CB HR0_1.out HB.out)
 (case side2 => exact HC0_1.out)
 (case side3 => exact CB HR0_2.out HB.out)
 (case side4 => exact HC0_2.out)
 (case side5 => exact CB HR0_3.out HB.out)
 (case side6 => exact HC0_3.out)
 (case side7 => exact CB HR0_4.out HB.out)
 (case side8 => exact HC0_4.out)
 rintro e w42 ⟨v343, v346, v349, v352, rfl, ho0, ho1, ho2, ho3, hb⟩
 refine ⟨_, rfl, ?_⟩
 replace HO321 := AM_ (Kd.R_below (RT HO321.out) hb)
 replace HO339 := AM_ (Kd.R_below (RT HO339.out) hb)
 have HO344 := AM_ (Kd.S_lower (Kd.S_new' (Kd.S_new' ho0 (Kd.S_lt (ST HO308.out))) (Kd.S_lt (ST HO325.out))) (below_size (BT HB.out)))
 replace HO308 := AM_ (Kd.S_elder' (ST HO308.out) (Kd.S_base ho0) hb)
 replace HO325 := AM_ (Kd.S_elder' (ST HO325.out) (Kd.S_base ho0) hb)
 have HO347 := AM_ (Kd.S_lower (Kd.S_new' (Kd.S_new' ho1 (Kd.S_lt (ST HO311.out))) (Kd.S_lt (ST HO328.out))) (below_size (BT HB.out)))
 replace HO311 := AM_ (Kd.S_elder' (ST HO311.out) (Kd.S_base ho1) hb)
 replace HO328 := AM_ (Kd.S_elder' (ST HO328.out) (Kd.S_base ho1) hb)
 have HO350 := AM_ (Kd.R_lower (Kd.R_new' (Kd.R_new' ho2 (Kd.R_lt (RT HO314.out))) (Kd.R_lt (RT HO331.out))) (below_size (BT HB.out)))
 replace HO314 := AM_ (Kd.R_elder' (RT HO314.out) (Kd.R_base ho2) hb)
 replace HO331 := AM_ (Kd.R_elder' (RT HO331.out) (Kd.R_base ho2) hb)
 have HO353 := AM_ (Kd.R_lower (Kd.R_new' (Kd.R_new' ho3 (Kd.R_lt (RT HO317.out))) (Kd.R_lt (RT HO334.out))) (below_size (BT HB.out)))
 replace HO317 := AM_ (Kd.R_elder' (RT HO317.out) (Kd.R_base ho3) hb)
 replace HO334 := AM_ (Kd.R_elder' (RT HO334.out) (Kd.R_base ho3) hb)
 replace BK303 := AM_ (BB BK303.out hb)
 replace BK336 := AM_ (BB BK336.out hb)
 replace HB := AM_ (below_step (BT HB.out) hb)
 (try clear hb)
 (try clear hb2)
 (try clear hk)
 (try clear hi)
 (try clear ho0)
 (try clear ho1)
 (try clear ho2)
 (try clear ho3)
 obtain ⟨Ao43, co43, eo43⟩ := Kd.S_slice HO344.out
 (first | subst eo43 | (injection eo43 with f1_ f2_ f3_; have f4_ := f1_.symm; have f5_ := f3_.symm; clear f1_ f2_ f3_; subst f4_; subst f5_))
 obtain ⟨Ao44, co44, eo44⟩ := Kd.S_slice HO347.out
 (first | subst eo44 | (injection eo44 with f1_ f2_ f3_; have f4_ := f1_.symm; have f5_ := f3_.symm; clear f1_ f2_ f3_; subst f4_; subst f5_))
 obtain ⟨Ao45, co45, eo45⟩ := Kd.R_slice HO350.out
 (first | subst eo45 | (injection eo45 with f1_ f2_ f3_; have f4_ := f1_.symm; have f5_ := f3_.symm; clear f1_ f2_ f3_; subst f4_; subst f5_))
 obtain ⟨Ao46, co46, eo46⟩ := Kd.R_slice HO353.out
 (first | subst eo46 | (injection eo46 with f1_ f2_ f3_; have f4_ := f1_.symm; have f5_ := f3_.symm; clear f1_ f2_ f3_; subst f4_; subst f5_))
 refine hK.out _ _ ⟨bc BK336.out 0, bc BK336.out 1, bc BK336.out 2, bc BK336.out 3, bc BK336.out 4, bc BK336.out 5, bc BK303.out 0, bc BK303.out 1, bc BK303.out 2, bc BK303.out 3, bc BK303.out 4, bc BK303.out 5⟩ (fun hHeld => ?_)
 clear hK K
 refine norm_ (a' := ?_) ?_ ?_
 rotate_left
 ·show Act.put _ (some 33) _ = _
  simp only [pA, pS, pZ, pK, i64_w, i32_w]
  rfl
 refine one_ (i := 3) (N := some 34) (bs 15 5) rfl rfl (by kernel_rfl) (by decide) (fun K hK => ?_)
 refine goes_ Try.func31 (by kernel_rfl) rfl #[.agg #[.bool t322, .slice Ao34 t323.length co34, .slice Ao35 t326.length co35, .slice Ao36 t329.length co36, .slice Ao37 t332.length co37, .int .i64 t335], .agg #[.bool t341, .slice Ao43 t342.length co43, .slice Ao44 t345.length co44, .slice Ao45 t348.length co45, .slice Ao46 t351.length co46, .int .i64 t354]] (by rfl) rfl rfl (by (try simp only [List.map_toArray, List.map_cons, List.map_nil]); first | done | rfl | (simp only [List.length_drop, List.length_take]; rfl)) ?_
 with_reducible refine (laws_eqEngine.calls k t322 _ _ t323 _ _ t326 _ _ t329 _ _ t332 t335 t341 _ _ t342 _ _ t345 _ _ t348 _ _ t351 t354 true _ ?side1 ?side2 ?side3 ?side4 ?side5 ?side6 ?side7 ?side8 ?side9 ?side10 ?side11 ?side12 ?side13 ?side14 ?side15 ?side16 A15.out).mono ?_
 (case side1 => exact Kd.C_below (Kd.S_reads' HO325.out).2.2 (BL (Below.refl _ _) rfl rfl rfl rfl))
 (case side2 => exact (Kd.S_reads' HO325.out).2.1)
 (case side3 => exact Kd.C_below (Kd.S_reads' HO328.out).2.2 (BL (Below.refl _ _) rfl rfl rfl rfl))
 (case side4 => exact (Kd.S_reads' HO328.out).2.1)
 (case side5 => exact Kd.C_below (Kd.R_reads' HO331.out).2.2 (BL (Below.refl _ _) rfl rfl rfl rfl))
 (case side6 => exact (Kd.R_reads' HO331.out).2.1)
 (case side7 => exact Kd.C_below (Kd.R_reads' HO334.out).2.2 (BL (Below.refl _ _) rfl rfl rfl rfl))
 (case side8 => exact (Kd.R_reads' HO334.out).2.1)
 (case side9 => exact Kd.C_below (Kd.S_reads' HO344.out).2.2 (BL (Below.refl _ _) rfl rfl rfl rfl))
 (case side10 => exact (Kd.S_reads' HO344.out).2.1)
 (case side11 => exact Kd.C_below (Kd.S_reads' HO347.out).2.2 (BL (Below.refl _ _) rfl rfl rfl rfl))
 (case side12 => exact (Kd.S_reads' HO347.out).2.1)
 (case side13 => exact Kd.C_below (Kd.R_reads' HO350.out).2.2 (BL (Below.refl _ _) rfl rfl rfl rfl))
 (case side14 => exact (Kd.R_reads' HO350.out).2.1)
 (case side15 => exact Kd.C_below (Kd.R_reads' HO353.out).2.2 (BL (Below.refl _ _) rfl rfl rfl rfl))
 (case side16 => exact (Kd.R_reads' HO353.out).2.1)
 rintro e w47 ⟨rfl, hb⟩
 refine ⟨_, rfl, ?_⟩
 replace HO308 := AM_ (Kd.S_below (ST HO308.out) hb)
 replace HO311 := AM_ (Kd.S_below (ST HO311.out) hb)
 replace HO314 := AM_ (Kd.R_below (RT HO314.out) hb)
 replace HO317 := AM_ (Kd.R_below (RT HO317.out) hb)
 replace HO321 := AM_ (Kd.R_below (RT HO321.out) hb)
 replace HO325 := AM_ (Kd.S_below (ST HO325.out) hb)
 replace HO328 := AM_ (Kd.S_below (ST HO328.out) hb)
 replace HO331 := AM_ (Kd.R_below (RT HO331.out) hb)
 replace HO334 := AM_ (Kd.R_below (RT HO334.out) hb)
 replace HO339 := AM_ (Kd.R_below (RT HO339.out) hb)
 replace HO344 := AM_ (Kd.S_below (ST HO344.out) hb)
 replace HO347 := AM_ (Kd.S_below (ST HO347.out) hb)
 replace HO350 := AM_ (Kd.R_below (RT HO350.out) hb)
 replace HO353 := AM_ (Kd.R_below (RT HO353.out) hb)
 replace BK303 := AM_ (BB BK303.out hb)
 replace BK336 := AM_ (BB BK336.out hb)
 replace HB := AM_ (below_step (BT HB.out) hb)
 (try clear hb)
 (try clear hb2)
 (try clear hk)
 (try clear hi)
 refine hK.out _ _ ⟨bc BK336.out 0, bc BK336.out 1, bc BK336.out 2, bc BK336.out 3, bc BK336.out 4, bc BK336.out 5, bc BK303.out 0, bc BK303.out 1, bc BK303.out 2, bc BK303.out 3, bc BK303.out 4, bc BK303.out 5⟩ (fun hHeld => ?_)
 clear hK K
 refine norm_ (a' := ?_) ?_ ?_
 rotate_left
 ·show Act.put _ (some 34) _ = _
  simp only [pA, pS, pZ, pK, i64_w, i32_w]
  rfl
 refine pure_ (i := 4) (N := some 35) (v := ?_) (a' := ?_) (bs 31 5) rfl rfl (by kernel_rfl) (fun _ _ _ h => h) (Or.inl ⟨by rfl, ?_⟩) ?_ ?_
 rotate_left
 ·intro w'
  go_simp
  with_reducible rfl
 rotate_left
 ·simp only [pA, pS, pZ, pK, i64_w, i32_w]
  rfl
 refine done_ (by kernel_rfl) ?_
 obtain ⟨hcz48_0, hcz48_1, hcz48_2, hcz48_3, hcz48_4, hcz48_5, hfz48_0, hfz48_1, hfz48_2, hfz48_3, hfz48_4, hfz48_5⟩ := bk6 BK336.out
 obtain ⟨PN49, hpn49, hpo49, hpt49⟩ := laws_markEngine_nest HO325.out
 obtain ⟨PN50, hpn50, hpo50, hpt50⟩ := laws_markEngine_nest HO328.out
 go_upto_region 14 with (first | ((with_reducible refine gate_callee (f := 42) rfl ?_); refine goesL_ (some 38) rfl rfl Try.func42 (by kernel_rfl) rfl #[.agg #[.bool t322, .slice Ao34 t323.length co34, .slice Ao35 t326.length co35, .slice Ao36 t329.length co36, .slice Ao37 t332.length co37, .int .i64 t335], .int .i64 1] rfl (by (try simp only [List.map_toArray, List.map_cons, List.map_nil]); first | done | rfl | (simp only [List.length_drop, List.length_take]; rfl)) ?_; (with_reducible refine (laws_markEngine.calls k t322 PN49 (.slice Ao34 t323.length co34) t323 PN50 (.slice Ao35 t326.length co35) t326 (fun k_ => some k_ = (.slice Ao36 t329.length co36 : Value).ownBlock) (.slice Ao36 t329.length co36) t329 (fun k_ => some k_ = (.slice Ao37 t332.length co37 : Value).ownBlock) (.slice Ao37 t332.length co37) t332 t335 1 t356 w _ ?side1 ?side2 ?side3 ?side4 ?side5 A17.out).mono ?_); (case side1 => repeat (first | (with_reducible first | exact HB.out | apply below_alloc | apply pw_below_drewN | apply below_drew1 | refine below_set ?_ GE303.out | refine below_set ?_ GE336.out) | exact HB.out)); (case side2 => (with_reducible repeat (first | apply Kd.S_alloc | apply Kd.S_drewN | apply Kd.S_drew)); exact hpn49); (case side3 => (with_reducible repeat (first | apply Kd.S_alloc | apply Kd.S_drewN | apply Kd.S_drew)); exact hpn50); (case side4 => exact Kd.R_tight rfl HO331.out); (case side5 => exact Kd.R_tight rfl HO334.out); rintro e w51 ⟨rfl, hb, hkp⟩; refine ⟨_, rfl, ?_⟩; have n0_ := AM_ (blk_kept (by (with_reducible repeat (first | refine blk_drewN ?_ _ | refine blk_drew ?_ | refine blk_alloc ?_ _)); exact BK303.out) hkp (fun hs_ => Or.elim hs_ (fun e_ => (fun e_ => laws_markEngine_types ⟨_, BK303.out⟩ (hpt49 _ e_) (by decide)) e_) (fun e_ => Or.elim e_ (fun e_ => (fun e_ => laws_markEngine_types ⟨_, BK303.out⟩ (hpt50 _ e_) (by decide)) e_) (fun e_ => Or.elim e_ (fun e_ => (fun e_ => (Kd.R_ne HO331.out BK303.out (by decide)) e_) e_) (fun e_ => (fun e_ => (Kd.R_ne HO334.out BK303.out (by decide)) e_) e_))))); have n1_ := AM_ (Kd.R_mono (ok' := fun k_ => some k_ ≠ (.slice Ao39 t337.length co39 : Value).ownBlock) (Kd.R_keptB ((Kd.R_apart' (Kd.R_apart' (laws_markEngine_apart (P := PN50) rfl (laws_markEngine_apart (P := PN49) rfl HO321.out (fun k_ e_ hp_ => laws_markEngine_types (Kd.R_typed HO321.out k_ e_) (hpt49 k_ hp_) (by decide))) (fun k_ e_ hp_ => laws_markEngine_types (Kd.R_typed HO321.out k_ e_) (hpt50 k_ hp_) (by decide))) (Kd.R_typed HO331.out) (by decide)) (Kd.R_typed HO334.out) (by decide))) hkp (fun k_ hk_ hs_ => Or.elim hs_ (fun e_ => (hk_.1.1.1.2) e_) (fun e_ => Or.elim e_ (fun e_ => (hk_.1.1.2) e_) (fun e_ => Or.elim e_ (fun e_ => (hk_.1.2) e_) (fun e_ => (hk_.2) e_))))) (fun k_ hk_ => by first | exact hk_.1.1.1.1.1.2 | exact hk_.1.1.1.1.1)); have n2_ := AM_ (blk_kept (by (with_reducible repeat (first | refine blk_drewN ?_ _ | refine blk_drew ?_ | refine blk_alloc ?_ _)); exact BK336.out) hkp (fun hs_ => Or.elim hs_ (fun e_ => (fun e_ => laws_markEngine_types ⟨_, BK336.out⟩ (hpt49 _ e_) (by decide)) e_) (fun e_ => Or.elim e_ (fun e_ => (fun e_ => laws_markEngine_types ⟨_, BK336.out⟩ (hpt50 _ e_) (by decide)) e_) (fun e_ => Or.elim e_ (fun e_ => (fun e_ => (Kd.R_ne HO331.out BK336.out (by decide)) e_) e_) (fun e_ => (fun e_ => (Kd.R_ne HO334.out BK336.out (by decide)) e_) e_))))); have n3_ := AM_ (Kd.R_mono (ok' := fun k_ => some k_ ≠ (.slice Ao40 t319.length co40 : Value).ownBlock) (Kd.R_keptB ((Kd.R_apart' (Kd.R_apart' (laws_markEngine_apart (P := PN50) rfl (laws_markEngine_apart (P := PN49) rfl HO339.out (fun k_ e_ hp_ => laws_markEngine_types (Kd.R_typed HO339.out k_ e_) (hpt49 k_ hp_) (by decide))) (fun k_ e_ hp_ => laws_markEngine_types (Kd.R_typed HO339.out k_ e_) (hpt50 k_ hp_) (by decide))) (Kd.R_typed HO331.out) (by decide)) (Kd.R_typed HO334.out) (by decide))) hkp (fun k_ hk_ hs_ => Or.elim hs_ (fun e_ => (hk_.1.1.1.2) e_) (fun e_ => Or.elim e_ (fun e_ => (hk_.1.1.2) e_) (fun e_ => Or.elim e_ (fun e_ => (hk_.1.2) e_) (fun e_ => (hk_.2) e_))))) (fun k_ hk_ => by first | exact hk_.1.1.1.1.1.2 | exact hk_.1.1.1.1.1)); have n4_ := AM_ (hb); clear BK303; clear HO321; clear BK336; clear HO339; clear HB; clear HO325; clear HO328; clear HO331; clear HO334; clear HO308; clear HO311; clear HO314; clear HO317; clear HO344; clear HO347; clear HO350; clear HO353; have BK303 := n0_; have HO321 := n1_; have BK336 := n2_; have HO339 := n3_; have HB := n4_; clear n0_ n1_ n2_ n3_ n4_; (try clear hb); (try clear hkp)))
 (try simp only [pA, pS, pZ, pK])
 go_cut [46] (fun v46 wc => ∃ (kq : Nat) (x46_17 : Bool), v46 = .bool x46_17 ∧ Aside0 (laws_FnExactTransactionIDs.j0 kq a1 t319 t337 x46_17 a0_0 l0_1 l0_2 l0_3 l0_4 a0_5 = some r) ∧ Aside0 (kq ≤ k) ∧ Aside0 (Kd.R (Kd.int .i64) 3 wc w.heap.size (fun k_ => some k_ ≠ ((.slice Ao39 t337.length co39) : Value).ownBlock) (.slice Ao40 t319.length co40) t319) ∧ Aside0 (Kd.R (Kd.int .i64) 3 wc w.heap.size (fun k_ => some k_ ≠ ((.slice Ao40 t319.length co40) : Value).ownBlock) (.slice Ao39 t337.length co39) t337) ∧ Aside0 (wc.heap[gb303]? = some (.cells #[.bool a0_0, (.slice A0_1 l0_1.length c0_1), (.slice A0_2 l0_2.length c0_2), (.slice A0_3 l0_3.length c0_3), (.slice A0_4 l0_4.length c0_4), .int .i64 a0_5] 44 (0, 0))) ∧ Aside0 (Below w.heap.size w wc))
 case first =>
  have H := HC18.out
  clear HC18
  by_cases c52 : t356 < 0
  ·rw [if_pos c52] at H
   have c52b0 : decide (t356 < 0) = true := decide_eq_true c52
   clear c52
   (first | rw [c52b0] | (simp only [i64_w, i32_w]; rw [c52b0]) | skip)
   have H' := AM_ H
   clear H
   go_wp2
   go_meet
   case rel => exact ⟨_, (true), (by first | rfl | (simp; done) | (simp [*]; done)), H', ⟨by first | omega | exact Nat.le_refl _⟩, ⟨RT HO321.out⟩, ⟨RT HO339.out⟩, ⟨BH BK303.out⟩, ⟨BT HB.out⟩⟩
  rw [if_neg c52] at H
  have c52b0 : decide (t356 < 0) = false := decide_eq_false c52
  clear c52
  (first | rw [c52b0] | (simp only [i64_w, i32_w]; rw [c52b0]) | skip)
  replace H := Option.bind_eq_some_iff.mp H
  obtain ⟨t357, A530, H⟩ := H
  replace H : (laws_FnExactTransactionIDs.j0 k a1 t319 t337 (!t357) a0_0 l0_1 l0_2 l0_3 l0_4 a0_5) = some r := H
  have A53 := AM_ A530
  clear A530
  have H' := AM_ H
  clear H
  go_wp2_with (first | (go_at_call 68; (with_reducible refine (laws_eqIntS.calls k _ _ t337 _ _ t319 t357 _ ?side1 ?side2 ?side3 ?side4 A53.out).mono ?_); (case side1 => exact Kd.C_below (Kd.R_reads' HO339.out).2.2 (BL (Below.refl _ _) rfl rfl rfl rfl)); (case side2 => exact (Kd.R_reads' HO339.out).2.1); (case side3 => exact Kd.C_below (Kd.R_reads' HO321.out).2.2 (BL (Below.refl _ _) rfl rfl rfl rfl)); (case side4 => exact (Kd.R_reads' HO321.out).2.1); rintro e w' ⟨rfl, ⟨nd, rfl⟩⟩))
  go_meet
  case rel => exact ⟨_, (!t357), (by first | rfl | (simp; done) | (simp [*]; done)), H', ⟨by first | omega | exact Nat.le_refl _⟩, ⟨RT HO321.out⟩, ⟨RT HO339.out⟩, ⟨BH BK303.out⟩, ⟨BT HB.out⟩⟩
 case rest =>
  clear HC18
  try clear c1
  try clear c2
  try clear p2
  try clear c3
  try clear c4
  try clear c4b0
  try clear c5
  try clear c6
  try clear c12
  try clear c13
  try clear c16
  try clear c27
  try clear c29
  try clear c31
  try clear c32
  try clear c42
  try clear c52
  try clear c52b0
  try clear hcz20_0
  try clear hcz20_1
  try clear hcz20_2
  try clear hcz20_3
  try clear hcz20_4
  try clear hcz20_5
  try clear hcz22_0
  try clear hcz22_1
  try clear hcz22_2
  try clear hcz22_3
  try clear hcz22_4
  try clear hcz22_5
  try clear hcz29_0
  try clear hcz29_1
  try clear hcz29_2
  try clear hcz29_3
  try clear hcz29_4
  try clear hcz29_5
  try clear hcz33_0
  try clear hcz33_1
  try clear hcz33_2
  try clear hcz33_3
  try clear hcz33_4
  try clear hcz33_5
  try clear hcz48_0
  try clear hcz48_1
  try clear hcz48_2
  try clear hcz48_3
  try clear hcz48_4
  try clear hcz48_5
  try clear hcz6_0
  try clear hcz6_1
  try clear hcz6_2
  try clear hcz6_3
  try clear hcz6_4
  try clear hcz6_5
  try clear hfz20_0
  try clear hfz20_1
  try clear hfz20_2
  try clear hfz20_3
  try clear hfz20_4
  try clear hfz20_5
  try clear hfz22_0
  try clear hfz22_1
  try clear hfz22_2
  try clear hfz22_3
  try clear hfz22_4
  try clear hfz22_5
  try clear hfz29_0
  try clear hfz29_1
  try clear hfz29_2
  try clear hfz29_3
  try clear hfz29_4
  try clear hfz29_5
  try clear hfz33_0
  try clear hfz33_1
  try clear hfz33_2
  try clear hfz33_3
  try clear hfz33_4
  try clear hfz33_5
  try clear hfz48_0
  try clear hfz48_1
  try clear hfz48_2
  try clear hfz48_3
  try clear hfz48_4
  try clear hfz48_5
  try clear hfz6_0
  try clear hfz6_1
  try clear hfz6_2
  try clear hfz6_3
  try clear hfz6_4
  try clear hfz6_5
  obtain ⟨kq, x46_17, rfl, HA, HJ17, HO_6, HO_8, BK303, HB⟩ := hcut
  cases kq with
  | zero => exact absurd HA.out (by simp [laws_FnExactTransactionIDs.j0])
  | succ kj17 =>
   have H := HA.out
   clear HA
   simp only [laws_FnExactTransactionIDs.j0] at H
   by_cases c54 : x46_17 = true
   ·subst c54
    have H1 : (some false) = some r := by rw [if_pos rfl] at H; exact H
    clear H
    have H := H1
    clear H1
    obtain rfl := Option.some.inj H
    go_wp2
    go_ret
    exact QT (BT HB.out)
   replace c54 := Bool.eq_false_iff.mpr c54
   subst c54
   have H1 : ((laws_markIntS.f kj17 t337 1).bind fun bt358 => ((laws_heldIntS.f kj17 bt358.2 1).bind fun t360 => (if t360 < 0 then (some false) else (if t360 = bt358.1 then ((laws_toEngine.f kj17 a0_0 l0_1 l0_2 l0_3 l0_4 a0_5).bind fun bt361 => ((impl_TransactionIDs.f kj17 bt361.1 bt361.2.1 bt361.2.2.1 bt361.2.2.2.1 bt361.2.2.2.2.1 bt361.2.2.2.2.2 a1).bind fun t375 => ((laws_eqIntS.f kj17 t375 t319).bind fun t378 => (if t378 = true then ((laws_heldIntS.f kj17 bt358.2 1).bind fun t379 => (if t379 < 0 then (some false) else (if t379 = bt358.1 then (some true) else (some false)))) else (some false))))) else (some false))))) = some r := by rw [if_neg (show ¬ (false = true) by decide)] at H; exact H
   clear H
   have H := H1
   clear H1
   replace H := Option.bind_eq_some_iff.mp H
   obtain ⟨⟨t358, t359⟩, A550, H⟩ := H
   replace H : ((laws_heldIntS.f kj17 t359 1).bind fun t360 => (if t360 < 0 then (some false) else (if t360 = t358 then ((laws_toEngine.f kj17 a0_0 l0_1 l0_2 l0_3 l0_4 a0_5).bind fun bt361 => ((impl_TransactionIDs.f kj17 bt361.1 bt361.2.1 bt361.2.2.1 bt361.2.2.2.1 bt361.2.2.2.2.1 bt361.2.2.2.2.2 a1).bind fun t375 => ((laws_eqIntS.f kj17 t375 t319).bind fun t378 => (if t378 = true then ((laws_heldIntS.f kj17 t359 1).bind fun t379 => (if t379 < 0 then (some false) else (if t379 = t358 then (some true) else (some false)))) else (some false))))) else (some false)))) = some r := H
   have A55 := AM_ A550
   clear A550
   replace H := Option.bind_eq_some_iff.mp H
   obtain ⟨t360, A560, H⟩ := H
   replace H : (if t360 < 0 then (some false) else (if t360 = t358 then ((laws_toEngine.f kj17 a0_0 l0_1 l0_2 l0_3 l0_4 a0_5).bind fun bt361 => ((impl_TransactionIDs.f kj17 bt361.1 bt361.2.1 bt361.2.2.1 bt361.2.2.2.1 bt361.2.2.2.2.1 bt361.2.2.2.2.2 a1).bind fun t375 => ((laws_eqIntS.f kj17 t375 t319).bind fun t378 => (if t378 = true then ((laws_heldIntS.f kj17 t359 1).bind fun t379 => (if t379 < 0 then (some false) else (if t379 = t358 then (some true) else (some false)))) else (some false))))) else (some false))) = some r := H
   have A56 := AM_ A560
   clear A560
   by_cases c57 : t360 < 0
   ·rw [if_pos c57] at H
    have c57b0 : decide (t360 < 0) = true := decide_eq_true c57
    clear c57
    obtain rfl := Option.some.inj H
    go_wp2_with (first | ((with_reducible refine gate_callee (f := 69) rfl ?_); refine goesL_ (some 49) rfl rfl Try.func69 (by kernel_rfl) rfl #[.slice Ao39 t337.length co39, .int .i64 1] rfl (by (try simp only [List.map_toArray, List.map_cons, List.map_nil]); first | done | rfl | (simp only [List.length_drop, List.length_take]; rfl)) ?_; (with_reducible refine (laws_markIntS.calls kj17 (fun k_ => some k_ = (.slice Ao39 t337.length co39 : Value).ownBlock) (.slice Ao39 t337.length co39) t337 1 t358 t359 w _ ?side1 ?side2 A55.out).mono ?_); (case side1 => repeat (first | (with_reducible first | exact HB.out | apply below_alloc | apply pw_below_drewN | apply below_drew1 | refine below_set ?_ GE303.out) | exact HB.out)); (case side2 => exact Kd.R_tight rfl HO_8.out); rintro e w58 ⟨rfl, hy0, hb, hkp⟩; refine ⟨_, rfl, ?_⟩; replace HO_6 := AM_ (Kd.R_mono (ok' := fun k_ => some k_ ≠ (.slice Ao39 t337.length co39 : Value).ownBlock) (Kd.R_keptB (HO_6.out) hkp (fun k_ hk_ hs_ => (hk_) hs_)) (fun k_ hk_ => hk_.1)); replace BK303 := AM_ (blk_kept (by (with_reducible repeat (first | refine blk_drewN ?_ _ | refine blk_drew ?_ | refine blk_alloc ?_ _)); exact BK303.out) hkp (fun hs_ => (fun e_ => (Kd.R_ne HO_8.out BK303.out (by decide)) e_) hs_)); replace HO_8 := AM_ (Kd.R_reok rfl hy0 (fun k_ e_ => HO_8.out.1 k_ e_)); replace HB := AM_ (hb); (try clear hb); (try clear hkp); (try clear hy0)) | ((with_reducible refine gate_callee (f := 70) rfl ?_); refine goesL_ (some 52) rfl rfl Try.func70 (by kernel_rfl) rfl #[.slice Ao39 t359.length co39, .int .i64 1] rfl (by (try simp only [List.map_toArray, List.map_cons, List.map_nil]); first | done | (rw [show t359.length = t337.length from (Kd.R_reads' HO_8.out).1.symm] <;> rfl) | rfl | (simp only [List.length_drop, List.length_take]; rfl)) ?_; (with_reducible refine (laws_heldIntS.calls kj17 _ _ t359 1 t360 _ ?side1 ?side2 A56.out).mono ?_); (case side1 => exact Kd.C_below (Kd.R_reads' HO_8.out).2.2 (BL (Below.refl _ _) rfl rfl rfl rfl)); (case side2 => rw [show t359.length = t337.length from (Kd.R_reads' HO_8.out).1.symm]; exact (Kd.R_reads' HO_8.out).2.1); rintro e w' ⟨rfl, ⟨nd, rfl⟩⟩; refine ⟨_, rfl, ?_⟩))
    go_ret
    exact QT (BT HB.out)
   rw [if_neg c57] at H
   have c57b0 : decide (t360 < 0) = false := decide_eq_false c57
   clear c57
   by_cases c59 : t360 = t358
   rotate_left
   ·rw [if_neg c59] at H
    have c59b0 : (t360 == t358) = false := beq_eq_false_iff_ne.mpr c59
    have c59b1 : (t360 != t358) = true := bne_iff_ne.mpr c59
    obtain rfl := Option.some.inj H
    go_wp2_with (first | ((with_reducible refine gate_callee (f := 69) rfl ?_); refine goesL_ (some 49) rfl rfl Try.func69 (by kernel_rfl) rfl #[.slice Ao39 t337.length co39, .int .i64 1] rfl (by (try simp only [List.map_toArray, List.map_cons, List.map_nil]); first | done | rfl | (simp only [List.length_drop, List.length_take]; rfl)) ?_; (with_reducible refine (laws_markIntS.calls kj17 (fun k_ => some k_ = (.slice Ao39 t337.length co39 : Value).ownBlock) (.slice Ao39 t337.length co39) t337 1 t358 t359 w _ ?side1 ?side2 A55.out).mono ?_); (case side1 => repeat (first | (with_reducible first | exact HB.out | apply below_alloc | apply pw_below_drewN | apply below_drew1 | refine below_set ?_ GE303.out) | exact HB.out)); (case side2 => exact Kd.R_tight rfl HO_8.out); rintro e w103 ⟨rfl, hy0, hb, hkp⟩; refine ⟨_, rfl, ?_⟩; replace HO_6 := AM_ (Kd.R_mono (ok' := fun k_ => some k_ ≠ (.slice Ao39 t337.length co39 : Value).ownBlock) (Kd.R_keptB (HO_6.out) hkp (fun k_ hk_ hs_ => (hk_) hs_)) (fun k_ hk_ => hk_.1)); replace BK303 := AM_ (blk_kept (by (with_reducible repeat (first | refine blk_drewN ?_ _ | refine blk_drew ?_ | refine blk_alloc ?_ _)); exact BK303.out) hkp (fun hs_ => (fun e_ => (Kd.R_ne HO_8.out BK303.out (by decide)) e_) hs_)); replace HO_8 := AM_ (Kd.R_reok rfl hy0 (fun k_ e_ => HO_8.out.1 k_ e_)); replace HB := AM_ (hb); (try clear hb); (try clear hkp); (try clear hy0)) | ((with_reducible refine gate_callee (f := 70) rfl ?_); refine goesL_ (some 52) rfl rfl Try.func70 (by kernel_rfl) rfl #[.slice Ao39 t359.length co39, .int .i64 1] rfl (by (try simp only [List.map_toArray, List.map_cons, List.map_nil]); first | done | (rw [show t359.length = t337.length from (Kd.R_reads' HO_8.out).1.symm] <;> rfl) | rfl | (simp only [List.length_drop, List.length_take]; rfl)) ?_; (with_reducible refine (laws_heldIntS.calls kj17 _ _ t359 1 t360 _ ?side1 ?side2 A56.out).mono ?_); (case side1 => exact Kd.C_below (Kd.R_reads' HO_8.out).2.2 (BL (Below.refl _ _) rfl rfl rfl rfl)); (case side2 => rw [show t359.length = t337.length from (Kd.R_reads' HO_8.out).1.symm]; exact (Kd.R_reads' HO_8.out).2.1); rintro e w' ⟨rfl, ⟨nd, rfl⟩⟩; refine ⟨_, rfl, ?_⟩))
    go_ret
    exact QT (BT HB.out)
   rw [if_pos c59] at H
   have c59b0 : (t360 == t358) = true := beq_iff_eq.mpr c59
   have c59b1 : (t360 != t358) = false := bne_eq_false_iff_eq.mpr c59
   clear c59
   replace H := Option.bind_eq_some_iff.mp H
   obtain ⟨⟨t361, t362, t365, t368, t371, t374⟩, A600, H⟩ := H
   replace H : ((impl_TransactionIDs.f kj17 t361 t362 t365 t368 t371 t374 a1).bind fun t375 => ((laws_eqIntS.f kj17 t375 t319).bind fun t378 => (if t378 = true then ((laws_heldIntS.f kj17 t359 1).bind fun t379 => (if t379 < 0 then (some false) else (if t379 = t358 then (some true) else (some false)))) else (some false)))) = some r := H
   have A60 := AM_ A600
   clear A600
   replace H := Option.bind_eq_some_iff.mp H
   obtain ⟨t375, A610, H⟩ := H
   replace H : ((laws_eqIntS.f kj17 t375 t319).bind fun t378 => (if t378 = true then ((laws_heldIntS.f kj17 t359 1).bind fun t379 => (if t379 < 0 then (some false) else (if t379 = t358 then (some true) else (some false)))) else (some false))) = some r := H
   have A61 := AM_ A610
   clear A610
   replace H := Option.bind_eq_some_iff.mp H
   obtain ⟨t378, A620, H⟩ := H
   replace H : (if t378 = true then ((laws_heldIntS.f kj17 t359 1).bind fun t379 => (if t379 < 0 then (some false) else (if t379 = t358 then (some true) else (some false)))) else (some false)) = some r := H
   have A62 := AM_ A620
   clear A620
   by_cases c63 : t378 = true
   rotate_left
   ·replace c63 := Bool.eq_false_iff.mpr c63
    subst c63
    have H1 : (some false) = some r := by rw [if_neg (show ¬ (false = true) by decide)] at H; exact H
    clear H
    have H := H1
    clear H1
    obtain rfl := Option.some.inj H
    go_wp2_with (first | ((with_reducible refine gate_callee (f := 69) rfl ?_); refine goesL_ (some 49) rfl rfl Try.func69 (by kernel_rfl) rfl #[.slice Ao39 t337.length co39, .int .i64 1] rfl (by (try simp only [List.map_toArray, List.map_cons, List.map_nil]); first | done | rfl | (simp only [List.length_drop, List.length_take]; rfl)) ?_; (with_reducible refine (laws_markIntS.calls kj17 (fun k_ => some k_ = (.slice Ao39 t337.length co39 : Value).ownBlock) (.slice Ao39 t337.length co39) t337 1 t358 t359 w _ ?side1 ?side2 A55.out).mono ?_); (case side1 => repeat (first | (with_reducible first | exact HB.out | apply below_alloc | apply pw_below_drewN | apply below_drew1 | refine below_set ?_ GE303.out) | exact HB.out)); (case side2 => exact Kd.R_tight rfl HO_8.out); rintro e w94 ⟨rfl, hy0, hb, hkp⟩; refine ⟨_, rfl, ?_⟩; replace HO_6 := AM_ (Kd.R_mono (ok' := fun k_ => some k_ ≠ (.slice Ao39 t337.length co39 : Value).ownBlock) (Kd.R_keptB (HO_6.out) hkp (fun k_ hk_ hs_ => (hk_) hs_)) (fun k_ hk_ => hk_.1)); replace BK303 := AM_ (blk_kept (by (with_reducible repeat (first | refine blk_drewN ?_ _ | refine blk_drew ?_ | refine blk_alloc ?_ _)); exact BK303.out) hkp (fun hs_ => (fun e_ => (Kd.R_ne HO_8.out BK303.out (by decide)) e_) hs_)); replace HO_8 := AM_ (Kd.R_reok rfl hy0 (fun k_ e_ => HO_8.out.1 k_ e_)); replace HB := AM_ (hb); (try clear hb); (try clear hkp); (try clear hy0)) | ((with_reducible refine gate_callee (f := 70) rfl ?_); refine goesL_ (some 52) rfl rfl Try.func70 (by kernel_rfl) rfl #[.slice Ao39 t359.length co39, .int .i64 1] rfl (by (try simp only [List.map_toArray, List.map_cons, List.map_nil]); first | done | (rw [show t359.length = t337.length from (Kd.R_reads' HO_8.out).1.symm] <;> rfl) | rfl | (simp only [List.length_drop, List.length_take]; rfl)) ?_; (with_reducible refine (laws_heldIntS.calls kj17 _ _ t359 1 t360 _ ?side1 ?side2 A56.out).mono ?_); (case side1 => exact Kd.C_below (Kd.R_reads' HO_8.out).2.2 (BL (Below.refl _ _) rfl rfl rfl rfl)); (case side2 => rw [show t359.length = t337.length from (Kd.R_reads' HO_8.out).1.symm]; exact (Kd.R_reads' HO_8.out).2.1); rintro e w' ⟨rfl, ⟨nd, rfl⟩⟩; refine ⟨_, rfl, ?_⟩; obtain ⟨hcz95_0, hcz95_1, hcz95_2, hcz95_3, hcz95_4, hcz95_5, hfz95_0, hfz95_1, hfz95_2, hfz95_3, hfz95_4, hfz95_5⟩ := bk6 BK303.out) | ((with_reducible refine gate_callee (f := 29) rfl ?_); refine goesL_ (some 59) rfl rfl Try.func29 (by kernel_rfl) rfl #[.agg #[.bool a0_0, .slice A0_1 l0_1.length c0_1, .slice A0_2 l0_2.length c0_2, .slice A0_3 l0_3.length c0_3, .slice A0_4 l0_4.length c0_4, .int .i64 a0_5]] rfl (by (try simp only [List.map_toArray, List.map_cons, List.map_nil]); first | done | rfl | (simp only [List.length_drop, List.length_take]; rfl)) ?_; (with_reducible refine (laws_toEngine.calls kj17 a0_0 _ _ l0_1 _ _ l0_2 _ _ l0_3 _ _ l0_4 a0_5 t361 t362 t365 t368 t371 t374 _ ?side1 ?side2 ?side3 ?side4 ?side5 ?side6 ?side7 ?side8 A60.out).mono ?_); (case side1 => repeat (first | exact (Kd.C_below HR0_1.out (BT HB.out)) | (with_reducible refine Kd.C_alloc ?_ _) | (with_reducible refine Kd.C_drewN ?_ _) | (with_reducible refine Kd.C_drew ?_))); (case side2 => exact HC0_1.out); (case side3 => repeat (first | exact (Kd.C_below HR0_2.out (BT HB.out)) | (with_reducible refine Kd.C_alloc ?_ _) | (with_reducible refine Kd.C_drewN ?_ _) | (with_reducible refine Kd.C_drew ?_))); (case side4 => exact HC0_2.out); (case side5 => repeat (first | exact (Kd.C_below HR0_3.out (BT HB.out)) | (with_reducible refine Kd.C_alloc ?_ _) | (with_reducible refine Kd.C_drewN ?_ _) | (with_reducible refine Kd.C_drew ?_))); (case side6 => exact HC0_3.out); (case side7 => repeat (first | exact (Kd.C_below HR0_4.out (BT HB.out)) | (with_reducible refine Kd.C_alloc ?_ _) | (with_reducible refine Kd.C_drewN ?_ _) | (with_reducible refine Kd.C_drew ?_))); (case side8 => exact HC0_4.out); rintro e w96 ⟨v363, v366, v369, v372, rfl, ho0, ho1, ho2, ho3, hb⟩; refine ⟨_, rfl, ?_⟩; replace HO_6 := AM_ (Kd.R_below (RT HO_6.out) hb); replace HO_8 := AM_ (Kd.R_below (RT HO_8.out) hb); have HO364 := AM_ (Kd.S_lower ho0 (below_size (BT HB.out))); have HO367 := AM_ (Kd.S_lower ho1 (below_size (BT HB.out))); have HO370 := AM_ (Kd.R_lower ho2 (below_size (BT HB.out))); have HO373 := AM_ (Kd.R_lower ho3 (below_size (BT HB.out))); replace BK303 := AM_ (BB BK303.out hb); replace HB := AM_ (below_step (BT HB.out) hb); (try clear hb); (try clear hb2); (try clear hk); (try clear hi); (try clear ho0); (try clear ho1); (try clear ho2); (try clear ho3); obtain ⟨Ao97, co97, eo97⟩ := Kd.S_slice HO364.out; subst eo97; obtain ⟨Ao98, co98, eo98⟩ := Kd.S_slice HO367.out; subst eo98; obtain ⟨Ao99, co99, eo99⟩ := Kd.R_slice HO370.out; subst eo99; obtain ⟨Ao100, co100, eo100⟩ := Kd.R_slice HO373.out; subst eo100) | ((with_reducible refine gate_callee (f := 67) rfl ?_); refine goesL_ (some 61) rfl rfl Try.func67 (by kernel_rfl) rfl #[.agg #[.bool t361, .slice Ao97 t362.length co97, .slice Ao98 t365.length co98, .slice Ao99 t368.length co99, .slice Ao100 t371.length co100, .int .i64 t374], .int .i64 a1] rfl (by (try simp only [List.map_toArray, List.map_cons, List.map_nil]); first | done | rfl | (simp only [List.length_drop, List.length_take]; rfl)) ?_; (with_reducible refine (impl_TransactionIDs.calls kj17 t361 _ _ t362 _ _ t365 _ _ t368 _ _ t371 t374 a1 t375 _ ?side1 ?side2 ?side3 ?side4 ?side5 ?side6 ?side7 ?side8 A61.out).mono ?_); (case side1 => exact Kd.C_below (Kd.S_reads' HO364.out).2.2 (BL (Below.refl _ _) rfl rfl rfl rfl)); (case side2 => exact (Kd.S_reads' HO364.out).2.1); (case side3 => exact Kd.C_below (Kd.S_reads' HO367.out).2.2 (BL (Below.refl _ _) rfl rfl rfl rfl)); (case side4 => exact (Kd.S_reads' HO367.out).2.1); (case side5 => exact Kd.C_below (Kd.R_reads' HO370.out).2.2 (BL (Below.refl _ _) rfl rfl rfl rfl)); (case side6 => exact (Kd.R_reads' HO370.out).2.1); (case side7 => exact Kd.C_below (Kd.R_reads' HO373.out).2.2 (BL (Below.refl _ _) rfl rfl rfl rfl)); (case side8 => exact (Kd.R_reads' HO373.out).2.1); rintro e w101 ⟨v376, rfl, ho0, hb⟩; refine ⟨_, rfl, ?_⟩; replace HO364 := AM_ (Kd.S_below (ST HO364.out) hb); replace HO367 := AM_ (Kd.S_below (ST HO367.out) hb); replace HO370 := AM_ (Kd.R_below (RT HO370.out) hb); replace HO373 := AM_ (Kd.R_below (RT HO373.out) hb); have HO377 := AM_ (Kd.R_lower (Kd.R_new' (Kd.R_new' ho0 (Kd.R_lt (RT HO_6.out))) (Kd.R_lt (RT HO_8.out))) (below_size (BT HB.out))); replace HO_6 := AM_ (Kd.R_elder' (RT HO_6.out) (Kd.R_base ho0) hb); replace HO_8 := AM_ (Kd.R_elder' (RT HO_8.out) (Kd.R_base ho0) hb); replace BK303 := AM_ (BB BK303.out hb); replace HB := AM_ (below_step (BT HB.out) hb); (try clear hb); (try clear hb2); (try clear hk); (try clear hi); (try clear ho0); obtain ⟨Ao102, co102, eo102⟩ := Kd.R_slice HO377.out; subst eo102) | ((with_reducible refine gate_callee (f := 68) rfl ?_); refine goesL_ (some 64) rfl rfl Try.func68 (by kernel_rfl) rfl #[.slice Ao102 t375.length co102, .slice Ao40 t319.length co40] rfl (by (try simp only [List.map_toArray, List.map_cons, List.map_nil]); first | done | rfl | (simp only [List.length_drop, List.length_take]; rfl)) ?_; (with_reducible refine (laws_eqIntS.calls kj17 _ _ t375 _ _ t319 false _ ?side1 ?side2 ?side3 ?side4 A62.out).mono ?_); (case side1 => exact Kd.C_below (Kd.R_reads' HO377.out).2.2 (BL (Below.refl _ _) rfl rfl rfl rfl)); (case side2 => exact (Kd.R_reads' HO377.out).2.1); (case side3 => exact Kd.C_below (Kd.R_reads' HO_6.out).2.2 (BL (Below.refl _ _) rfl rfl rfl rfl)); (case side4 => exact (Kd.R_reads' HO_6.out).2.1); rintro e w' ⟨rfl, ⟨nd, rfl⟩⟩; refine ⟨_, rfl, ?_⟩))
    go_ret
    exact QT (BT HB.out)
   subst c63
   have H1 : ((laws_heldIntS.f kj17 t359 1).bind fun t379 => (if t379 < 0 then (some false) else (if t379 = t358 then (some true) else (some false)))) = some r := by rw [if_pos rfl] at H; exact H
   clear H
   have H := H1
   clear H1
   replace H := Option.bind_eq_some_iff.mp H
   obtain ⟨t379, A640, H⟩ := H
   replace H : (if t379 < 0 then (some false) else (if t379 = t358 then (some true) else (some false))) = some r := H
   have A64 := AM_ A640
   clear A640
   by_cases c65 : t379 < 0
   ·rw [if_pos c65] at H
    have c65b0 : decide (t379 < 0) = true := decide_eq_true c65
    clear c65
    obtain rfl := Option.some.inj H
    go_wp2_with (first | ((with_reducible refine gate_callee (f := 69) rfl ?_); refine goesL_ (some 49) rfl rfl Try.func69 (by kernel_rfl) rfl #[.slice Ao39 t337.length co39, .int .i64 1] rfl (by (try simp only [List.map_toArray, List.map_cons, List.map_nil]); first | done | rfl | (simp only [List.length_drop, List.length_take]; rfl)) ?_; (with_reducible refine (laws_markIntS.calls kj17 (fun k_ => some k_ = (.slice Ao39 t337.length co39 : Value).ownBlock) (.slice Ao39 t337.length co39) t337 1 t358 t359 w _ ?side1 ?side2 A55.out).mono ?_); (case side1 => repeat (first | (with_reducible first | exact HB.out | apply below_alloc | apply pw_below_drewN | apply below_drew1 | refine below_set ?_ GE303.out) | exact HB.out)); (case side2 => exact Kd.R_tight rfl HO_8.out); rintro e w66 ⟨rfl, hy0, hb, hkp⟩; refine ⟨_, rfl, ?_⟩; replace HO_6 := AM_ (Kd.R_mono (ok' := fun k_ => some k_ ≠ (.slice Ao39 t337.length co39 : Value).ownBlock) (Kd.R_keptB (HO_6.out) hkp (fun k_ hk_ hs_ => (hk_) hs_)) (fun k_ hk_ => hk_.1)); replace BK303 := AM_ (blk_kept (by (with_reducible repeat (first | refine blk_drewN ?_ _ | refine blk_drew ?_ | refine blk_alloc ?_ _)); exact BK303.out) hkp (fun hs_ => (fun e_ => (Kd.R_ne HO_8.out BK303.out (by decide)) e_) hs_)); replace HO_8 := AM_ (Kd.R_reok rfl hy0 (fun k_ e_ => HO_8.out.1 k_ e_)); replace HB := AM_ (hb); (try clear hb); (try clear hkp); (try clear hy0)) | ((with_reducible refine gate_callee (f := 70) rfl ?_); refine goesL_ (some 52) rfl rfl Try.func70 (by kernel_rfl) rfl #[.slice Ao39 t359.length co39, .int .i64 1] rfl (by (try simp only [List.map_toArray, List.map_cons, List.map_nil]); first | done | (rw [show t359.length = t337.length from (Kd.R_reads' HO_8.out).1.symm] <;> rfl) | rfl | (simp only [List.length_drop, List.length_take]; rfl)) ?_; (with_reducible refine (laws_heldIntS.calls kj17 _ _ t359 1 t360 _ ?side1 ?side2 A56.out).mono ?_); (case side1 => exact Kd.C_below (Kd.R_reads' HO_8.out).2.2 (BL (Below.refl _ _) rfl rfl rfl rfl)); (case side2 => rw [show t359.length = t337.length from (Kd.R_reads' HO_8.out).1.symm]; exact (Kd.R_reads' HO_8.out).2.1); rintro e w' ⟨rfl, ⟨nd, rfl⟩⟩; refine ⟨_, rfl, ?_⟩; obtain ⟨hcz67_0, hcz67_1, hcz67_2, hcz67_3, hcz67_4, hcz67_5, hfz67_0, hfz67_1, hfz67_2, hfz67_3, hfz67_4, hfz67_5⟩ := bk6 BK303.out) | ((with_reducible refine gate_callee (f := 29) rfl ?_); refine goesL_ (some 59) rfl rfl Try.func29 (by kernel_rfl) rfl #[.agg #[.bool a0_0, .slice A0_1 l0_1.length c0_1, .slice A0_2 l0_2.length c0_2, .slice A0_3 l0_3.length c0_3, .slice A0_4 l0_4.length c0_4, .int .i64 a0_5]] rfl (by (try simp only [List.map_toArray, List.map_cons, List.map_nil]); first | done | rfl | (simp only [List.length_drop, List.length_take]; rfl)) ?_; (with_reducible refine (laws_toEngine.calls kj17 a0_0 _ _ l0_1 _ _ l0_2 _ _ l0_3 _ _ l0_4 a0_5 t361 t362 t365 t368 t371 t374 _ ?side1 ?side2 ?side3 ?side4 ?side5 ?side6 ?side7 ?side8 A60.out).mono ?_); (case side1 => repeat (first | exact (Kd.C_below HR0_1.out (BT HB.out)) | (with_reducible refine Kd.C_alloc ?_ _) | (with_reducible refine Kd.C_drewN ?_ _) | (with_reducible refine Kd.C_drew ?_))); (case side2 => exact HC0_1.out); (case side3 => repeat (first | exact (Kd.C_below HR0_2.out (BT HB.out)) | (with_reducible refine Kd.C_alloc ?_ _) | (with_reducible refine Kd.C_drewN ?_ _) | (with_reducible refine Kd.C_drew ?_))); (case side4 => exact HC0_2.out); (case side5 => repeat (first | exact (Kd.C_below HR0_3.out (BT HB.out)) | (with_reducible refine Kd.C_alloc ?_ _) | (with_reducible refine Kd.C_drewN ?_ _) | (with_reducible refine Kd.C_drew ?_))); (case side6 => exact HC0_3.out); (case side7 => repeat (first | exact (Kd.C_below HR0_4.out (BT HB.out)) | (with_reducible refine Kd.C_alloc ?_ _) | (with_reducible refine Kd.C_drewN ?_ _) | (with_reducible refine Kd.C_drew ?_))); (case side8 => exact HC0_4.out); rintro e w68 ⟨v363, v366, v369, v372, rfl, ho0, ho1, ho2, ho3, hb⟩; refine ⟨_, rfl, ?_⟩; replace HO_6 := AM_ (Kd.R_below (RT HO_6.out) hb); replace HO_8 := AM_ (Kd.R_below (RT HO_8.out) hb); have HO364 := AM_ (Kd.S_lower ho0 (below_size (BT HB.out))); have HO367 := AM_ (Kd.S_lower ho1 (below_size (BT HB.out))); have HO370 := AM_ (Kd.R_lower ho2 (below_size (BT HB.out))); have HO373 := AM_ (Kd.R_lower ho3 (below_size (BT HB.out))); replace BK303 := AM_ (BB BK303.out hb); replace HB := AM_ (below_step (BT HB.out) hb); (try clear hb); (try clear hb2); (try clear hk); (try clear hi); (try clear ho0); (try clear ho1); (try clear ho2); (try clear ho3); obtain ⟨Ao69, co69, eo69⟩ := Kd.S_slice HO364.out; subst eo69; obtain ⟨Ao70, co70, eo70⟩ := Kd.S_slice HO367.out; subst eo70; obtain ⟨Ao71, co71, eo71⟩ := Kd.R_slice HO370.out; subst eo71; obtain ⟨Ao72, co72, eo72⟩ := Kd.R_slice HO373.out; subst eo72) | ((with_reducible refine gate_callee (f := 67) rfl ?_); refine goesL_ (some 61) rfl rfl Try.func67 (by kernel_rfl) rfl #[.agg #[.bool t361, .slice Ao69 t362.length co69, .slice Ao70 t365.length co70, .slice Ao71 t368.length co71, .slice Ao72 t371.length co72, .int .i64 t374], .int .i64 a1] rfl (by (try simp only [List.map_toArray, List.map_cons, List.map_nil]); first | done | rfl | (simp only [List.length_drop, List.length_take]; rfl)) ?_; (with_reducible refine (impl_TransactionIDs.calls kj17 t361 _ _ t362 _ _ t365 _ _ t368 _ _ t371 t374 a1 t375 _ ?side1 ?side2 ?side3 ?side4 ?side5 ?side6 ?side7 ?side8 A61.out).mono ?_); (case side1 => exact Kd.C_below (Kd.S_reads' HO364.out).2.2 (BL (Below.refl _ _) rfl rfl rfl rfl)); (case side2 => exact (Kd.S_reads' HO364.out).2.1); (case side3 => exact Kd.C_below (Kd.S_reads' HO367.out).2.2 (BL (Below.refl _ _) rfl rfl rfl rfl)); (case side4 => exact (Kd.S_reads' HO367.out).2.1); (case side5 => exact Kd.C_below (Kd.R_reads' HO370.out).2.2 (BL (Below.refl _ _) rfl rfl rfl rfl)); (case side6 => exact (Kd.R_reads' HO370.out).2.1); (case side7 => exact Kd.C_below (Kd.R_reads' HO373.out).2.2 (BL (Below.refl _ _) rfl rfl rfl rfl)); (case side8 => exact (Kd.R_reads' HO373.out).2.1); rintro e w73 ⟨v376, rfl, ho0, hb⟩; refine ⟨_, rfl, ?_⟩; replace HO364 := AM_ (Kd.S_below (ST HO364.out) hb); replace HO367 := AM_ (Kd.S_below (ST HO367.out) hb); replace HO370 := AM_ (Kd.R_below (RT HO370.out) hb); replace HO373 := AM_ (Kd.R_below (RT HO373.out) hb); have HO377 := AM_ (Kd.R_lower (Kd.R_new' (Kd.R_new' ho0 (Kd.R_lt (RT HO_6.out))) (Kd.R_lt (RT HO_8.out))) (below_size (BT HB.out))); replace HO_6 := AM_ (Kd.R_elder' (RT HO_6.out) (Kd.R_base ho0) hb); replace HO_8 := AM_ (Kd.R_elder' (RT HO_8.out) (Kd.R_base ho0) hb); replace BK303 := AM_ (BB BK303.out hb); replace HB := AM_ (below_step (BT HB.out) hb); (try clear hb); (try clear hb2); (try clear hk); (try clear hi); (try clear ho0); obtain ⟨Ao74, co74, eo74⟩ := Kd.R_slice HO377.out; subst eo74) | ((with_reducible refine gate_callee (f := 68) rfl ?_); refine goesL_ (some 64) rfl rfl Try.func68 (by kernel_rfl) rfl #[.slice Ao74 t375.length co74, .slice Ao40 t319.length co40] rfl (by (try simp only [List.map_toArray, List.map_cons, List.map_nil]); first | done | rfl | (simp only [List.length_drop, List.length_take]; rfl)) ?_; (with_reducible refine (laws_eqIntS.calls kj17 _ _ t375 _ _ t319 true _ ?side1 ?side2 ?side3 ?side4 A62.out).mono ?_); (case side1 => exact Kd.C_below (Kd.R_reads' HO377.out).2.2 (BL (Below.refl _ _) rfl rfl rfl rfl)); (case side2 => exact (Kd.R_reads' HO377.out).2.1); (case side3 => exact Kd.C_below (Kd.R_reads' HO_6.out).2.2 (BL (Below.refl _ _) rfl rfl rfl rfl)); (case side4 => exact (Kd.R_reads' HO_6.out).2.1); rintro e w' ⟨rfl, ⟨nd, rfl⟩⟩; refine ⟨_, rfl, ?_⟩) | ((with_reducible refine gate_callee (f := 70) rfl ?_); refine goesL_ (some 68) rfl rfl Try.func70 (by kernel_rfl) rfl #[.slice Ao39 t359.length co39, .int .i64 1] rfl (by (try simp only [List.map_toArray, List.map_cons, List.map_nil]); first | done | (rw [show t359.length = t337.length from (Kd.R_reads' HO_8.out).1.symm] <;> rfl) | rfl | (simp only [List.length_drop, List.length_take]; rfl)) ?_; (with_reducible refine (laws_heldIntS.calls kj17 _ _ t359 1 t379 _ ?side1 ?side2 A64.out).mono ?_); (case side1 => exact Kd.C_below (Kd.R_reads' HO_8.out).2.2 (BL (Below.refl _ _) rfl rfl rfl rfl)); (case side2 => rw [show t359.length = t337.length from (Kd.R_reads' HO_8.out).1.symm]; exact (Kd.R_reads' HO_8.out).2.1); rintro e w' ⟨rfl, ⟨nd, rfl⟩⟩; refine ⟨_, rfl, ?_⟩))
    go_ret
    exact QT (BT HB.out)
   rw [if_neg c65] at H
   have c65b0 : decide (t379 < 0) = false := decide_eq_false c65
   clear c65
   by_cases c75 : t379 = t358
   rotate_left
   ·rw [if_neg c75] at H
    have c75b0 : (t379 == t358) = false := beq_eq_false_iff_ne.mpr c75
    have c75b1 : (t379 != t358) = true := bne_iff_ne.mpr c75
    obtain rfl := Option.some.inj H
    go_wp2_with (first | ((with_reducible refine gate_callee (f := 69) rfl ?_); refine goesL_ (some 49) rfl rfl Try.func69 (by kernel_rfl) rfl #[.slice Ao39 t337.length co39, .int .i64 1] rfl (by (try simp only [List.map_toArray, List.map_cons, List.map_nil]); first | done | rfl | (simp only [List.length_drop, List.length_take]; rfl)) ?_; (with_reducible refine (laws_markIntS.calls kj17 (fun k_ => some k_ = (.slice Ao39 t337.length co39 : Value).ownBlock) (.slice Ao39 t337.length co39) t337 1 t358 t359 w _ ?side1 ?side2 A55.out).mono ?_); (case side1 => repeat (first | (with_reducible first | exact HB.out | apply below_alloc | apply pw_below_drewN | apply below_drew1 | refine below_set ?_ GE303.out) | exact HB.out)); (case side2 => exact Kd.R_tight rfl HO_8.out); rintro e w85 ⟨rfl, hy0, hb, hkp⟩; refine ⟨_, rfl, ?_⟩; replace HO_6 := AM_ (Kd.R_mono (ok' := fun k_ => some k_ ≠ (.slice Ao39 t337.length co39 : Value).ownBlock) (Kd.R_keptB (HO_6.out) hkp (fun k_ hk_ hs_ => (hk_) hs_)) (fun k_ hk_ => hk_.1)); replace BK303 := AM_ (blk_kept (by (with_reducible repeat (first | refine blk_drewN ?_ _ | refine blk_drew ?_ | refine blk_alloc ?_ _)); exact BK303.out) hkp (fun hs_ => (fun e_ => (Kd.R_ne HO_8.out BK303.out (by decide)) e_) hs_)); replace HO_8 := AM_ (Kd.R_reok rfl hy0 (fun k_ e_ => HO_8.out.1 k_ e_)); replace HB := AM_ (hb); (try clear hb); (try clear hkp); (try clear hy0)) | ((with_reducible refine gate_callee (f := 70) rfl ?_); refine goesL_ (some 52) rfl rfl Try.func70 (by kernel_rfl) rfl #[.slice Ao39 t359.length co39, .int .i64 1] rfl (by (try simp only [List.map_toArray, List.map_cons, List.map_nil]); first | done | (rw [show t359.length = t337.length from (Kd.R_reads' HO_8.out).1.symm] <;> rfl) | rfl | (simp only [List.length_drop, List.length_take]; rfl)) ?_; (with_reducible refine (laws_heldIntS.calls kj17 _ _ t359 1 t360 _ ?side1 ?side2 A56.out).mono ?_); (case side1 => exact Kd.C_below (Kd.R_reads' HO_8.out).2.2 (BL (Below.refl _ _) rfl rfl rfl rfl)); (case side2 => rw [show t359.length = t337.length from (Kd.R_reads' HO_8.out).1.symm]; exact (Kd.R_reads' HO_8.out).2.1); rintro e w' ⟨rfl, ⟨nd, rfl⟩⟩; refine ⟨_, rfl, ?_⟩; obtain ⟨hcz86_0, hcz86_1, hcz86_2, hcz86_3, hcz86_4, hcz86_5, hfz86_0, hfz86_1, hfz86_2, hfz86_3, hfz86_4, hfz86_5⟩ := bk6 BK303.out) | ((with_reducible refine gate_callee (f := 29) rfl ?_); refine goesL_ (some 59) rfl rfl Try.func29 (by kernel_rfl) rfl #[.agg #[.bool a0_0, .slice A0_1 l0_1.length c0_1, .slice A0_2 l0_2.length c0_2, .slice A0_3 l0_3.length c0_3, .slice A0_4 l0_4.length c0_4, .int .i64 a0_5]] rfl (by (try simp only [List.map_toArray, List.map_cons, List.map_nil]); first | done | rfl | (simp only [List.length_drop, List.length_take]; rfl)) ?_; (with_reducible refine (laws_toEngine.calls kj17 a0_0 _ _ l0_1 _ _ l0_2 _ _ l0_3 _ _ l0_4 a0_5 t361 t362 t365 t368 t371 t374 _ ?side1 ?side2 ?side3 ?side4 ?side5 ?side6 ?side7 ?side8 A60.out).mono ?_); (case side1 => repeat (first | exact (Kd.C_below HR0_1.out (BT HB.out)) | (with_reducible refine Kd.C_alloc ?_ _) | (with_reducible refine Kd.C_drewN ?_ _) | (with_reducible refine Kd.C_drew ?_))); (case side2 => exact HC0_1.out); (case side3 => repeat (first | exact (Kd.C_below HR0_2.out (BT HB.out)) | (with_reducible refine Kd.C_alloc ?_ _) | (with_reducible refine Kd.C_drewN ?_ _) | (with_reducible refine Kd.C_drew ?_))); (case side4 => exact HC0_2.out); (case side5 => repeat (first | exact (Kd.C_below HR0_3.out (BT HB.out)) | (with_reducible refine Kd.C_alloc ?_ _) | (with_reducible refine Kd.C_drewN ?_ _) | (with_reducible refine Kd.C_drew ?_))); (case side6 => exact HC0_3.out); (case side7 => repeat (first | exact (Kd.C_below HR0_4.out (BT HB.out)) | (with_reducible refine Kd.C_alloc ?_ _) | (with_reducible refine Kd.C_drewN ?_ _) | (with_reducible refine Kd.C_drew ?_))); (case side8 => exact HC0_4.out); rintro e w87 ⟨v363, v366, v369, v372, rfl, ho0, ho1, ho2, ho3, hb⟩; refine ⟨_, rfl, ?_⟩; replace HO_6 := AM_ (Kd.R_below (RT HO_6.out) hb); replace HO_8 := AM_ (Kd.R_below (RT HO_8.out) hb); have HO364 := AM_ (Kd.S_lower ho0 (below_size (BT HB.out))); have HO367 := AM_ (Kd.S_lower ho1 (below_size (BT HB.out))); have HO370 := AM_ (Kd.R_lower ho2 (below_size (BT HB.out))); have HO373 := AM_ (Kd.R_lower ho3 (below_size (BT HB.out))); replace BK303 := AM_ (BB BK303.out hb); replace HB := AM_ (below_step (BT HB.out) hb); (try clear hb); (try clear hb2); (try clear hk); (try clear hi); (try clear ho0); (try clear ho1); (try clear ho2); (try clear ho3); obtain ⟨Ao88, co88, eo88⟩ := Kd.S_slice HO364.out; subst eo88; obtain ⟨Ao89, co89, eo89⟩ := Kd.S_slice HO367.out; subst eo89; obtain ⟨Ao90, co90, eo90⟩ := Kd.R_slice HO370.out; subst eo90; obtain ⟨Ao91, co91, eo91⟩ := Kd.R_slice HO373.out; subst eo91) | ((with_reducible refine gate_callee (f := 67) rfl ?_); refine goesL_ (some 61) rfl rfl Try.func67 (by kernel_rfl) rfl #[.agg #[.bool t361, .slice Ao88 t362.length co88, .slice Ao89 t365.length co89, .slice Ao90 t368.length co90, .slice Ao91 t371.length co91, .int .i64 t374], .int .i64 a1] rfl (by (try simp only [List.map_toArray, List.map_cons, List.map_nil]); first | done | rfl | (simp only [List.length_drop, List.length_take]; rfl)) ?_; (with_reducible refine (impl_TransactionIDs.calls kj17 t361 _ _ t362 _ _ t365 _ _ t368 _ _ t371 t374 a1 t375 _ ?side1 ?side2 ?side3 ?side4 ?side5 ?side6 ?side7 ?side8 A61.out).mono ?_); (case side1 => exact Kd.C_below (Kd.S_reads' HO364.out).2.2 (BL (Below.refl _ _) rfl rfl rfl rfl)); (case side2 => exact (Kd.S_reads' HO364.out).2.1); (case side3 => exact Kd.C_below (Kd.S_reads' HO367.out).2.2 (BL (Below.refl _ _) rfl rfl rfl rfl)); (case side4 => exact (Kd.S_reads' HO367.out).2.1); (case side5 => exact Kd.C_below (Kd.R_reads' HO370.out).2.2 (BL (Below.refl _ _) rfl rfl rfl rfl)); (case side6 => exact (Kd.R_reads' HO370.out).2.1); (case side7 => exact Kd.C_below (Kd.R_reads' HO373.out).2.2 (BL (Below.refl _ _) rfl rfl rfl rfl)); (case side8 => exact (Kd.R_reads' HO373.out).2.1); rintro e w92 ⟨v376, rfl, ho0, hb⟩; refine ⟨_, rfl, ?_⟩; replace HO364 := AM_ (Kd.S_below (ST HO364.out) hb); replace HO367 := AM_ (Kd.S_below (ST HO367.out) hb); replace HO370 := AM_ (Kd.R_below (RT HO370.out) hb); replace HO373 := AM_ (Kd.R_below (RT HO373.out) hb); have HO377 := AM_ (Kd.R_lower (Kd.R_new' (Kd.R_new' ho0 (Kd.R_lt (RT HO_6.out))) (Kd.R_lt (RT HO_8.out))) (below_size (BT HB.out))); replace HO_6 := AM_ (Kd.R_elder' (RT HO_6.out) (Kd.R_base ho0) hb); replace HO_8 := AM_ (Kd.R_elder' (RT HO_8.out) (Kd.R_base ho0) hb); replace BK303 := AM_ (BB BK303.out hb); replace HB := AM_ (below_step (BT HB.out) hb); (try clear hb); (try clear hb2); (try clear hk); (try clear hi); (try clear ho0); obtain ⟨Ao93, co93, eo93⟩ := Kd.R_slice HO377.out; subst eo93) | ((with_reducible refine gate_callee (f := 68) rfl ?_); refine goesL_ (some 64) rfl rfl Try.func68 (by kernel_rfl) rfl #[.slice Ao93 t375.length co93, .slice Ao40 t319.length co40] rfl (by (try simp only [List.map_toArray, List.map_cons, List.map_nil]); first | done | rfl | (simp only [List.length_drop, List.length_take]; rfl)) ?_; (with_reducible refine (laws_eqIntS.calls kj17 _ _ t375 _ _ t319 true _ ?side1 ?side2 ?side3 ?side4 A62.out).mono ?_); (case side1 => exact Kd.C_below (Kd.R_reads' HO377.out).2.2 (BL (Below.refl _ _) rfl rfl rfl rfl)); (case side2 => exact (Kd.R_reads' HO377.out).2.1); (case side3 => exact Kd.C_below (Kd.R_reads' HO_6.out).2.2 (BL (Below.refl _ _) rfl rfl rfl rfl)); (case side4 => exact (Kd.R_reads' HO_6.out).2.1); rintro e w' ⟨rfl, ⟨nd, rfl⟩⟩; refine ⟨_, rfl, ?_⟩) | ((with_reducible refine gate_callee (f := 70) rfl ?_); refine goesL_ (some 68) rfl rfl Try.func70 (by kernel_rfl) rfl #[.slice Ao39 t359.length co39, .int .i64 1] rfl (by (try simp only [List.map_toArray, List.map_cons, List.map_nil]); first | done | (rw [show t359.length = t337.length from (Kd.R_reads' HO_8.out).1.symm] <;> rfl) | rfl | (simp only [List.length_drop, List.length_take]; rfl)) ?_; (with_reducible refine (laws_heldIntS.calls kj17 _ _ t359 1 t379 _ ?side1 ?side2 A64.out).mono ?_); (case side1 => exact Kd.C_below (Kd.R_reads' HO_8.out).2.2 (BL (Below.refl _ _) rfl rfl rfl rfl)); (case side2 => rw [show t359.length = t337.length from (Kd.R_reads' HO_8.out).1.symm]; exact (Kd.R_reads' HO_8.out).2.1); rintro e w' ⟨rfl, ⟨nd, rfl⟩⟩; refine ⟨_, rfl, ?_⟩))
    go_ret
    exact QT (BT HB.out)
   rw [if_pos c75] at H
   have c75b0 : (t379 == t358) = true := beq_iff_eq.mpr c75
   have c75b1 : (t379 != t358) = false := bne_eq_false_iff_eq.mpr c75
   clear c75
   obtain rfl := Option.some.inj H
   go_wp2_with (first | ((with_reducible refine gate_callee (f := 69) rfl ?_); refine goesL_ (some 49) rfl rfl Try.func69 (by kernel_rfl) rfl #[.slice Ao39 t337.length co39, .int .i64 1] rfl (by (try simp only [List.map_toArray, List.map_cons, List.map_nil]); first | done | rfl | (simp only [List.length_drop, List.length_take]; rfl)) ?_; (with_reducible refine (laws_markIntS.calls kj17 (fun k_ => some k_ = (.slice Ao39 t337.length co39 : Value).ownBlock) (.slice Ao39 t337.length co39) t337 1 t358 t359 w _ ?side1 ?side2 A55.out).mono ?_); (case side1 => repeat (first | (with_reducible first | exact HB.out | apply below_alloc | apply pw_below_drewN | apply below_drew1 | refine below_set ?_ GE303.out) | exact HB.out)); (case side2 => exact Kd.R_tight rfl HO_8.out); rintro e w76 ⟨rfl, hy0, hb, hkp⟩; refine ⟨_, rfl, ?_⟩; replace HO_6 := AM_ (Kd.R_mono (ok' := fun k_ => some k_ ≠ (.slice Ao39 t337.length co39 : Value).ownBlock) (Kd.R_keptB (HO_6.out) hkp (fun k_ hk_ hs_ => (hk_) hs_)) (fun k_ hk_ => hk_.1)); replace BK303 := AM_ (blk_kept (by (with_reducible repeat (first | refine blk_drewN ?_ _ | refine blk_drew ?_ | refine blk_alloc ?_ _)); exact BK303.out) hkp (fun hs_ => (fun e_ => (Kd.R_ne HO_8.out BK303.out (by decide)) e_) hs_)); replace HO_8 := AM_ (Kd.R_reok rfl hy0 (fun k_ e_ => HO_8.out.1 k_ e_)); replace HB := AM_ (hb); (try clear hb); (try clear hkp); (try clear hy0)) | ((with_reducible refine gate_callee (f := 70) rfl ?_); refine goesL_ (some 52) rfl rfl Try.func70 (by kernel_rfl) rfl #[.slice Ao39 t359.length co39, .int .i64 1] rfl (by (try simp only [List.map_toArray, List.map_cons, List.map_nil]); first | done | (rw [show t359.length = t337.length from (Kd.R_reads' HO_8.out).1.symm] <;> rfl) | rfl | (simp only [List.length_drop, List.length_take]; rfl)) ?_; (with_reducible refine (laws_heldIntS.calls kj17 _ _ t359 1 t360 _ ?side1 ?side2 A56.out).mono ?_); (case side1 => exact Kd.C_below (Kd.R_reads' HO_8.out).2.2 (BL (Below.refl _ _) rfl rfl rfl rfl)); (case side2 => rw [show t359.length = t337.length from (Kd.R_reads' HO_8.out).1.symm]; exact (Kd.R_reads' HO_8.out).2.1); rintro e w' ⟨rfl, ⟨nd, rfl⟩⟩; refine ⟨_, rfl, ?_⟩; obtain ⟨hcz77_0, hcz77_1, hcz77_2, hcz77_3, hcz77_4, hcz77_5, hfz77_0, hfz77_1, hfz77_2, hfz77_3, hfz77_4, hfz77_5⟩ := bk6 BK303.out) | ((with_reducible refine gate_callee (f := 29) rfl ?_); refine goesL_ (some 59) rfl rfl Try.func29 (by kernel_rfl) rfl #[.agg #[.bool a0_0, .slice A0_1 l0_1.length c0_1, .slice A0_2 l0_2.length c0_2, .slice A0_3 l0_3.length c0_3, .slice A0_4 l0_4.length c0_4, .int .i64 a0_5]] rfl (by (try simp only [List.map_toArray, List.map_cons, List.map_nil]); first | done | rfl | (simp only [List.length_drop, List.length_take]; rfl)) ?_; (with_reducible refine (laws_toEngine.calls kj17 a0_0 _ _ l0_1 _ _ l0_2 _ _ l0_3 _ _ l0_4 a0_5 t361 t362 t365 t368 t371 t374 _ ?side1 ?side2 ?side3 ?side4 ?side5 ?side6 ?side7 ?side8 A60.out).mono ?_); (case side1 => repeat (first | exact (Kd.C_below HR0_1.out (BT HB.out)) | (with_reducible refine Kd.C_alloc ?_ _) | (with_reducible refine Kd.C_drewN ?_ _) | (with_reducible refine Kd.C_drew ?_))); (case side2 => exact HC0_1.out); (case side3 => repeat (first | exact (Kd.C_below HR0_2.out (BT HB.out)) | (with_reducible refine Kd.C_alloc ?_ _) | (with_reducible refine Kd.C_drewN ?_ _) | (with_reducible refine Kd.C_drew ?_))); (case side4 => exact HC0_2.out); (case side5 => repeat (first | exact (Kd.C_below HR0_3.out (BT HB.out)) | (with_reducible refine Kd.C_alloc ?_ _) | (with_reducible refine Kd.C_drewN ?_ _) | (with_reducible refine Kd.C_drew ?_))); (case side6 => exact HC0_3.out); (case side7 => repeat (first | exact (Kd.C_below HR0_4.out (BT HB.out)) | (with_reducible refine Kd.C_alloc ?_ _) | (with_reducible refine Kd.C_drewN ?_ _) | (with_reducible refine Kd.C_drew ?_))); (case side8 => exact HC0_4.out); rintro e w78 ⟨v363, v366, v369, v372, rfl, ho0, ho1, ho2, ho3, hb⟩; refine ⟨_, rfl, ?_⟩; replace HO_6 := AM_ (Kd.R_below (RT HO_6.out) hb); replace HO_8 := AM_ (Kd.R_below (RT HO_8.out) hb); have HO364 := AM_ (Kd.S_lower ho0 (below_size (BT HB.out))); have HO367 := AM_ (Kd.S_lower ho1 (below_size (BT HB.out))); have HO370 := AM_ (Kd.R_lower ho2 (below_size (BT HB.out))); have HO373 := AM_ (Kd.R_lower ho3 (below_size (BT HB.out))); replace BK303 := AM_ (BB BK303.out hb); replace HB := AM_ (below_step (BT HB.out) hb); (try clear hb); (try clear hb2); (try clear hk); (try clear hi); (try clear ho0); (try clear ho1); (try clear ho2); (try clear ho3); obtain ⟨Ao79, co79, eo79⟩ := Kd.S_slice HO364.out; subst eo79; obtain ⟨Ao80, co80, eo80⟩ := Kd.S_slice HO367.out; subst eo80; obtain ⟨Ao81, co81, eo81⟩ := Kd.R_slice HO370.out; subst eo81; obtain ⟨Ao82, co82, eo82⟩ := Kd.R_slice HO373.out; subst eo82) | ((with_reducible refine gate_callee (f := 67) rfl ?_); refine goesL_ (some 61) rfl rfl Try.func67 (by kernel_rfl) rfl #[.agg #[.bool t361, .slice Ao79 t362.length co79, .slice Ao80 t365.length co80, .slice Ao81 t368.length co81, .slice Ao82 t371.length co82, .int .i64 t374], .int .i64 a1] rfl (by (try simp only [List.map_toArray, List.map_cons, List.map_nil]); first | done | rfl | (simp only [List.length_drop, List.length_take]; rfl)) ?_; (with_reducible refine (impl_TransactionIDs.calls kj17 t361 _ _ t362 _ _ t365 _ _ t368 _ _ t371 t374 a1 t375 _ ?side1 ?side2 ?side3 ?side4 ?side5 ?side6 ?side7 ?side8 A61.out).mono ?_); (case side1 => exact Kd.C_below (Kd.S_reads' HO364.out).2.2 (BL (Below.refl _ _) rfl rfl rfl rfl)); (case side2 => exact (Kd.S_reads' HO364.out).2.1); (case side3 => exact Kd.C_below (Kd.S_reads' HO367.out).2.2 (BL (Below.refl _ _) rfl rfl rfl rfl)); (case side4 => exact (Kd.S_reads' HO367.out).2.1); (case side5 => exact Kd.C_below (Kd.R_reads' HO370.out).2.2 (BL (Below.refl _ _) rfl rfl rfl rfl)); (case side6 => exact (Kd.R_reads' HO370.out).2.1); (case side7 => exact Kd.C_below (Kd.R_reads' HO373.out).2.2 (BL (Below.refl _ _) rfl rfl rfl rfl)); (case side8 => exact (Kd.R_reads' HO373.out).2.1); rintro e w83 ⟨v376, rfl, ho0, hb⟩; refine ⟨_, rfl, ?_⟩; replace HO364 := AM_ (Kd.S_below (ST HO364.out) hb); replace HO367 := AM_ (Kd.S_below (ST HO367.out) hb); replace HO370 := AM_ (Kd.R_below (RT HO370.out) hb); replace HO373 := AM_ (Kd.R_below (RT HO373.out) hb); have HO377 := AM_ (Kd.R_lower (Kd.R_new' (Kd.R_new' ho0 (Kd.R_lt (RT HO_6.out))) (Kd.R_lt (RT HO_8.out))) (below_size (BT HB.out))); replace HO_6 := AM_ (Kd.R_elder' (RT HO_6.out) (Kd.R_base ho0) hb); replace HO_8 := AM_ (Kd.R_elder' (RT HO_8.out) (Kd.R_base ho0) hb); replace BK303 := AM_ (BB BK303.out hb); replace HB := AM_ (below_step (BT HB.out) hb); (try clear hb); (try clear hb2); (try clear hk); (try clear hi); (try clear ho0); obtain ⟨Ao84, co84, eo84⟩ := Kd.R_slice HO377.out; subst eo84) | ((with_reducible refine gate_callee (f := 68) rfl ?_); refine goesL_ (some 64) rfl rfl Try.func68 (by kernel_rfl) rfl #[.slice Ao84 t375.length co84, .slice Ao40 t319.length co40] rfl (by (try simp only [List.map_toArray, List.map_cons, List.map_nil]); first | done | rfl | (simp only [List.length_drop, List.length_take]; rfl)) ?_; (with_reducible refine (laws_eqIntS.calls kj17 _ _ t375 _ _ t319 true _ ?side1 ?side2 ?side3 ?side4 A62.out).mono ?_); (case side1 => exact Kd.C_below (Kd.R_reads' HO377.out).2.2 (BL (Below.refl _ _) rfl rfl rfl rfl)); (case side2 => exact (Kd.R_reads' HO377.out).2.1); (case side3 => exact Kd.C_below (Kd.R_reads' HO_6.out).2.2 (BL (Below.refl _ _) rfl rfl rfl rfl)); (case side4 => exact (Kd.R_reads' HO_6.out).2.1); rintro e w' ⟨rfl, ⟨nd, rfl⟩⟩; refine ⟨_, rfl, ?_⟩) | ((with_reducible refine gate_callee (f := 70) rfl ?_); refine goesL_ (some 68) rfl rfl Try.func70 (by kernel_rfl) rfl #[.slice Ao39 t359.length co39, .int .i64 1] rfl (by (try simp only [List.map_toArray, List.map_cons, List.map_nil]); first | done | (rw [show t359.length = t337.length from (Kd.R_reads' HO_8.out).1.symm] <;> rfl) | rfl | (simp only [List.length_drop, List.length_take]; rfl)) ?_; (with_reducible refine (laws_heldIntS.calls kj17 _ _ t359 1 t379 _ ?side1 ?side2 A64.out).mono ?_); (case side1 => exact Kd.C_below (Kd.R_reads' HO_8.out).2.2 (BL (Below.refl _ _) rfl rfl rfl rfl)); (case side2 => rw [show t359.length = t337.length from (Kd.R_reads' HO_8.out).1.symm]; exact (Kd.R_reads' HO_8.out).2.1); rintro e w' ⟨rfl, ⟨nd, rfl⟩⟩; refine ⟨_, rfl, ?_⟩))
   go_ret
   exact QT (BT HB.out)

end Go.Proofs.Ytakpkmlbklahhaa.PFnExactTransactionIDs
