-- Printed by a program of mine (wip/myprint.py), which runs the printer of the kit with contracts of mine beside it.
import Derived.Test.YtakpkmlbklahhaaPFnExactCommitCodex0
import Derived.Test.YtakpkmlbklahhaaPFnExactCommitCodex1
import Derived.Test.YtakpkmlbklahhaaPFnExactCommitCodex5
import Derived.Test.YtakpkmlbklahhaaPFnExactCommitCodex6
import Derived.Test.YtakpkmlbklahhaaPFnExactCommitCodex13
import Derived.Test.YtakpkmlbklahhaaPFnExactCommitCodex14
import Derived.Test.YtakpkmlbklahhaaPFnExactCommitCodex16
namespace Go.Proofs.Ytakpkmlbklahhaa.PFnExactCommitCode
open Go.RowKit Go.Proofs.YtakpkmlbklahhaaW.PrintWords Go.Proofs.YtakpkmlbklahhaaW.PrintLast Go.Proofs.YtakpkmlbklahhaaW.PrintMore
attribute [local go_sem] max2_int min2_int max_two min_two max_three min_three max_four min_four   -- for this text's walks alone
set_option linter.unusedVariables false
set_option linter.unusedSimpArgs false

/-! ### laws_FnExactCommitCode: function 5 -/
def laws_FnExactCommitCode.f (k : Nat) (l0_0 : List (List (S207))) (a1_0 : Int) (a1_1 : Int) (a1_2 : Int) (a1_3 : Int) (a1_4 : Int) (a1_5 : Int) (a1_6 : Int) (l1_7 : List (S189)) (l1_8 : List (S191)) : Option (Bool) := (laws_szStore.f k l0_0 1048576).bind fun t319 => (if t319 < 0 then (some true) else ((laws_szTransaction.f a1_0 a1_1 a1_2 a1_3 a1_4 a1_5 a1_6 l1_7 l1_8 t319).bind fun t320 => (if t320 < 0 then (some true) else ((laws_toStore.f k l0_0).bind fun t321 => ((laws_toTransaction.f k a1_0 a1_1 a1_2 a1_3 a1_4 a1_5 a1_6 l1_7 l1_8).bind fun bt324 => ((spec_CommitCode.f k t321 bt324.1 bt324.2.1 bt324.2.2.1 bt324.2.2.2.1 bt324.2.2.2.2.1 bt324.2.2.2.2.2.1 bt324.2.2.2.2.2.2.1 bt324.2.2.2.2.2.2.2.1 bt324.2.2.2.2.2.2.2.2).bind fun t337 => ((laws_toStore.f k l0_0).bind fun t338 => ((laws_toTransaction.f k a1_0 a1_1 a1_2 a1_3 a1_4 a1_5 a1_6 l1_7 l1_8).bind fun bt342 => ((impl_CommitCode.f k t338 bt342.1 bt342.2.1 bt342.2.2.1 bt342.2.2.2.1 bt342.2.2.2.2.1 bt342.2.2.2.2.2.1 bt342.2.2.2.2.2.2.1 bt342.2.2.2.2.2.2.2.1 bt342.2.2.2.2.2.2.2.2).bind fun t356 => (if t356 = t337 then ((laws_toStore.f k l0_0).bind fun t357 => ((laws_eqStore.f k t338 t357).bind fun t360 => (if t360 = true then ((laws_toTransaction.f k a1_0 a1_1 a1_2 a1_3 a1_4 a1_5 a1_6 l1_7 l1_8).bind fun bt361 => ((laws_eqTransaction.f k bt342.1 bt342.2.1 bt342.2.2.1 bt342.2.2.2.1 bt342.2.2.2.2.1 bt342.2.2.2.2.2.1 bt342.2.2.2.2.2.2.1 bt342.2.2.2.2.2.2.2.1 bt342.2.2.2.2.2.2.2.2 bt361.1 bt361.2.1 bt361.2.2.1 bt361.2.2.2.1 bt361.2.2.2.2.1 bt361.2.2.2.2.2.1 bt361.2.2.2.2.2.2.1 bt361.2.2.2.2.2.2.2.1 bt361.2.2.2.2.2.2.2.2).bind fun t374 => (if t374 = true then (some true) else (some false)))) else (some false)))) else (some false)))))))))))
theorem laws_FnExactCommitCode.mono : ∀ a0 a1 a2 a3 a4 a5 a6 a7 a8 a9 k, LeO (laws_FnExactCommitCode.f k a0 a1 a2 a3 a4 a5 a6 a7 a8 a9) (laws_FnExactCommitCode.f (k + 1) a0 a1 a2 a3 a4 a5 a6 a7 a8 a9) := by
 intro a0 a1 a2 a3 a4 a5 a6 a7 a8 a9 k
 unfold laws_FnExactCommitCode.f
 repeat' first
   | (with_reducible exact impl_CommitCode.mono _ _ _ _ _ _ _ _ _ _ _)
   | (with_reducible exact laws_eqStore.mono _ _ _)
   | (with_reducible exact laws_eqTransaction.mono _ _ _ _ _ _ _ _ _ _ _ _ _ _ _ _ _ _ _)
   | (with_reducible exact laws_szStore.mono _ _ _)
   | (with_reducible exact laws_toStore.mono _ _)
   | (with_reducible exact laws_toTransaction.mono _ _ _ _ _ _ _ _ _ _)
   | (with_reducible exact spec_CommitCode.mono _ _ _ _ _ _ _ _ _ _ _)
   | (with_reducible exact LeO.refl _)
   | (with_reducible exact LeO.none _)
   | (with_reducible refine LeO.ite ?_ ?_)
   | (with_reducible refine LeO.bind ?_ (fun _ => ?_))
   | exact impl_CommitCode.mono _ _ _ _ _ _ _ _ _ _ _
   | exact laws_eqStore.mono _ _ _
   | exact laws_eqTransaction.mono _ _ _ _ _ _ _ _ _ _ _ _ _ _ _ _ _ _ _
   | exact laws_szStore.mono _ _ _
   | exact laws_toStore.mono _ _
   | exact laws_toTransaction.mono _ _ _ _ _ _ _ _ _ _
   | exact spec_CommitCode.mono _ _ _ _ _ _ _ _ _ _ _
   | exact LeO.none _
   | refine LeO.ite ?_ ?_
   | refine LeO.bind ?_ (fun _ => ?_)
set_option maxHeartbeats 8000000 in
set_option maxRecDepth 100000 in
theorem laws_FnExactCommitCode.calls (k : Nat) (A0_0 : Option Addr) (c0_0 : Nat) (l0_0 : List (List (S207))) (a1_0 : Int) (a1_1 : Int) (a1_2 : Int) (a1_3 : Int) (a1_4 : Int) (a1_5 : Int) (a1_6 : Int) (A1_7 : Option Addr) (c1_7 : Nat) (l1_7 : List (S189)) (A1_8 : Option Addr) (c1_8 : Nat) (l1_8 : List (S191)) (r : Bool) (w : World) (hr0_0 : Kd.C (Kd.slice 207 k207) w A0_0 l0_0.length l0_0) (hc0_0 : l0_0.length ≤ c0_0) (hr1_7 : Kd.C k189 w A1_7 l1_7.length l1_7) (hc1_7 : l1_7.length ≤ c1_7) (hr1_8 : Kd.C k191 w A1_8 l1_8.length l1_8) (hc1_8 : l1_8.length ≤ c1_8) (h : laws_FnExactCommitCode.f k l0_0 a1_0 a1_1 a1_2 a1_3 a1_4 a1_5 a1_6 l1_7 l1_8 = some r) :
  Calls Try.prog 5 #[.agg #[.slice A0_0 l0_0.length c0_0], .agg #[.int .i64 a1_0, .int .i64 a1_1, .int .i64 a1_2, .int .i64 a1_3, .int .i64 a1_4, .int .i64 a1_5, .int .i64 a1_6, .slice A1_7 l1_7.length c1_7, .slice A1_8 l1_8.length c1_8]] w fun e w' => e = .returned (.bool r) ∧ Below w.heap.size w w' := by
 have hu39 := Try.underlying39
 have hu60 := Try.underlying60
 have hu49 := Try.underlying49
 have hu68 := Try.underlying68
 have HR0_0 := AM_ hr0_0
 have HC0_0 := AM_ hc0_0
 clear hr0_0 hc0_0
 have HR1_7 := AM_ hr1_7
 have HC1_7 := AM_ hc1_7
 clear hr1_7 hc1_7
 have HR1_8 := AM_ hr1_8
 have HC1_8 := AM_ hc1_8
 clear hr1_8 hc1_8
 have HB := AM_ (Below.refl w.heap.size w)
 have H : ((laws_szStore.f k l0_0 1048576).bind fun t319 => (if t319 < 0 then (some true) else ((laws_szTransaction.f a1_0 a1_1 a1_2 a1_3 a1_4 a1_5 a1_6 l1_7 l1_8 t319).bind fun t320 => (if t320 < 0 then (some true) else ((laws_toStore.f k l0_0).bind fun t321 => ((laws_toTransaction.f k a1_0 a1_1 a1_2 a1_3 a1_4 a1_5 a1_6 l1_7 l1_8).bind fun bt324 => ((spec_CommitCode.f k t321 bt324.1 bt324.2.1 bt324.2.2.1 bt324.2.2.2.1 bt324.2.2.2.2.1 bt324.2.2.2.2.2.1 bt324.2.2.2.2.2.2.1 bt324.2.2.2.2.2.2.2.1 bt324.2.2.2.2.2.2.2.2).bind fun t337 => ((laws_toStore.f k l0_0).bind fun t338 => ((laws_toTransaction.f k a1_0 a1_1 a1_2 a1_3 a1_4 a1_5 a1_6 l1_7 l1_8).bind fun bt342 => ((impl_CommitCode.f k t338 bt342.1 bt342.2.1 bt342.2.2.1 bt342.2.2.2.1 bt342.2.2.2.2.1 bt342.2.2.2.2.2.1 bt342.2.2.2.2.2.2.1 bt342.2.2.2.2.2.2.2.1 bt342.2.2.2.2.2.2.2.2).bind fun t356 => (if t356 = t337 then ((laws_toStore.f k l0_0).bind fun t357 => ((laws_eqStore.f k t338 t357).bind fun t360 => (if t360 = true then ((laws_toTransaction.f k a1_0 a1_1 a1_2 a1_3 a1_4 a1_5 a1_6 l1_7 l1_8).bind fun bt361 => ((laws_eqTransaction.f k bt342.1 bt342.2.1 bt342.2.2.1 bt342.2.2.2.1 bt342.2.2.2.2.1 bt342.2.2.2.2.2.1 bt342.2.2.2.2.2.2.1 bt342.2.2.2.2.2.2.2.1 bt342.2.2.2.2.2.2.2.2 bt361.1 bt361.2.1 bt361.2.2.1 bt361.2.2.2.1 bt361.2.2.2.2.1 bt361.2.2.2.2.2.1 bt361.2.2.2.2.2.2.1 bt361.2.2.2.2.2.2.2.1 bt361.2.2.2.2.2.2.2.2).bind fun t374 => (if t374 = true then (some true) else (some false)))) else (some false)))) else (some false)))))))))))) = some r := h
 clear h
 replace H := Option.bind_eq_some_iff.mp H
 obtain ⟨t319, A30, H⟩ := H
 replace H : (if t319 < 0 then (some true) else ((laws_szTransaction.f a1_0 a1_1 a1_2 a1_3 a1_4 a1_5 a1_6 l1_7 l1_8 t319).bind fun t320 => (if t320 < 0 then (some true) else ((laws_toStore.f k l0_0).bind fun t321 => ((laws_toTransaction.f k a1_0 a1_1 a1_2 a1_3 a1_4 a1_5 a1_6 l1_7 l1_8).bind fun bt324 => ((spec_CommitCode.f k t321 bt324.1 bt324.2.1 bt324.2.2.1 bt324.2.2.2.1 bt324.2.2.2.2.1 bt324.2.2.2.2.2.1 bt324.2.2.2.2.2.2.1 bt324.2.2.2.2.2.2.2.1 bt324.2.2.2.2.2.2.2.2).bind fun t337 => ((laws_toStore.f k l0_0).bind fun t338 => ((laws_toTransaction.f k a1_0 a1_1 a1_2 a1_3 a1_4 a1_5 a1_6 l1_7 l1_8).bind fun bt342 => ((impl_CommitCode.f k t338 bt342.1 bt342.2.1 bt342.2.2.1 bt342.2.2.2.1 bt342.2.2.2.2.1 bt342.2.2.2.2.2.1 bt342.2.2.2.2.2.2.1 bt342.2.2.2.2.2.2.2.1 bt342.2.2.2.2.2.2.2.2).bind fun t356 => (if t356 = t337 then ((laws_toStore.f k l0_0).bind fun t357 => ((laws_eqStore.f k t338 t357).bind fun t360 => (if t360 = true then ((laws_toTransaction.f k a1_0 a1_1 a1_2 a1_3 a1_4 a1_5 a1_6 l1_7 l1_8).bind fun bt361 => ((laws_eqTransaction.f k bt342.1 bt342.2.1 bt342.2.2.1 bt342.2.2.2.1 bt342.2.2.2.2.1 bt342.2.2.2.2.2.1 bt342.2.2.2.2.2.2.1 bt342.2.2.2.2.2.2.2.1 bt342.2.2.2.2.2.2.2.2 bt361.1 bt361.2.1 bt361.2.2.1 bt361.2.2.2.1 bt361.2.2.2.2.1 bt361.2.2.2.2.2.1 bt361.2.2.2.2.2.2.1 bt361.2.2.2.2.2.2.2.1 bt361.2.2.2.2.2.2.2.2).bind fun t374 => (if t374 = true then (some true) else (some false)))) else (some false)))) else (some false))))))))))) = some r := H
 have A3 := AM_ A30
 clear A30
 by_cases c4 : t319 < 0
 ·rw [if_pos c4] at H
  have c4b0 : decide (t319 < 0) = true := decide_eq_true c4
  clear c4
  obtain rfl := Option.some.inj H
  go_enter Try.func5, Try.ntmps5
  go_wp2_with (first | ((with_reducible refine gate_dst (N := 2) rfl ?_); refine box_event ?hg (N := 2) ?hd (cs := #[.slice A0_0 l0_0.length c0_0]) (t := 39) ?hr ?_; (case hd => rfl); (case hg => rfl); (case hr => first | (go_simp; done) | (go_simp; rfl)); intro gb317 hg w5 hbox hb; have BK317 := AM_ (hbox); have GW317 := AM_ ((GS HB.out hg)); have GE317 := AM_ ((GS HB.out hg)); replace HB := AM_ (below_step (BT HB.out) hb); clear hb hbox hg) | ((with_reducible refine gate_dst (N := 3) rfl ?_); refine box_event ?hg (N := 3) ?hd (cs := #[.int .i64 a1_0, .int .i64 a1_1, .int .i64 a1_2, .int .i64 a1_3, .int .i64 a1_4, .int .i64 a1_5, .int .i64 a1_6, .slice A1_7 l1_7.length c1_7, .slice A1_8 l1_8.length c1_8]) (t := 60) ?hr ?_; (case hd => rfl); (case hg => rfl); (case hr => first | (go_simp; done) | (go_simp; rfl)); intro gb318 hg w6 hbox hb; have BK318 := AM_ (hbox); have GW318 := AM_ ((GS HB.out hg)); have GE318 := AM_ ((GS HB.out hg)); replace HB := AM_ (below_step (BT HB.out) hb); have NB317_318 := AM_ ((NL BK317.out hg)); have NB318_317 := AM_ ((NG BK317.out hg)); replace BK317 := AM_ (BB BK317.out hb); clear hb hbox hg; have hnb7 := NB317_318.out; have hnc7 := NB318_317.out; obtain ⟨hcz8_0, hfz8_0⟩ := bk1 BK317.out) | ((with_reducible refine gate_callee (f := 32) rfl ?_); refine goesL_ (some 12) rfl rfl Try.func32 (by kernel_rfl) rfl #[.agg #[.slice A0_0 l0_0.length c0_0], .int .i64 1048576] rfl (by (try simp only [List.map_toArray, List.map_cons, List.map_nil]); first | done | rfl | (simp only [List.length_drop, List.length_take]; rfl)) ?_; (with_reducible refine (laws_szStore.calls k _ _ l0_0 1048576 t319 _ ?side1 ?side2 A3.out).mono ?_); (case side1 => exact CB HR0_0.out HB.out); (case side2 => exact HC0_0.out); rintro e w9 ⟨rfl, hb⟩; refine ⟨_, rfl, ?_⟩; replace BK317 := AM_ (BB BK317.out hb); replace BK318 := AM_ (BB BK318.out hb); replace HB := AM_ (below_step (BT HB.out) hb); (try clear hb); (try clear hb2); (try clear hk); (try clear hi)))
  go_ret
  exact QT (BT HB.out)
 rw [if_neg c4] at H
 have c4b0 : decide (t319 < 0) = false := decide_eq_false c4
 clear c4
 replace H := Option.bind_eq_some_iff.mp H
 obtain ⟨t320, A100, H⟩ := H
 replace H : (if t320 < 0 then (some true) else ((laws_toStore.f k l0_0).bind fun t321 => ((laws_toTransaction.f k a1_0 a1_1 a1_2 a1_3 a1_4 a1_5 a1_6 l1_7 l1_8).bind fun bt324 => ((spec_CommitCode.f k t321 bt324.1 bt324.2.1 bt324.2.2.1 bt324.2.2.2.1 bt324.2.2.2.2.1 bt324.2.2.2.2.2.1 bt324.2.2.2.2.2.2.1 bt324.2.2.2.2.2.2.2.1 bt324.2.2.2.2.2.2.2.2).bind fun t337 => ((laws_toStore.f k l0_0).bind fun t338 => ((laws_toTransaction.f k a1_0 a1_1 a1_2 a1_3 a1_4 a1_5 a1_6 l1_7 l1_8).bind fun bt342 => ((impl_CommitCode.f k t338 bt342.1 bt342.2.1 bt342.2.2.1 bt342.2.2.2.1 bt342.2.2.2.2.1 bt342.2.2.2.2.2.1 bt342.2.2.2.2.2.2.1 bt342.2.2.2.2.2.2.2.1 bt342.2.2.2.2.2.2.2.2).bind fun t356 => (if t356 = t337 then ((laws_toStore.f k l0_0).bind fun t357 => ((laws_eqStore.f k t338 t357).bind fun t360 => (if t360 = true then ((laws_toTransaction.f k a1_0 a1_1 a1_2 a1_3 a1_4 a1_5 a1_6 l1_7 l1_8).bind fun bt361 => ((laws_eqTransaction.f k bt342.1 bt342.2.1 bt342.2.2.1 bt342.2.2.2.1 bt342.2.2.2.2.1 bt342.2.2.2.2.2.1 bt342.2.2.2.2.2.2.1 bt342.2.2.2.2.2.2.2.1 bt342.2.2.2.2.2.2.2.2 bt361.1 bt361.2.1 bt361.2.2.1 bt361.2.2.2.1 bt361.2.2.2.2.1 bt361.2.2.2.2.2.1 bt361.2.2.2.2.2.2.1 bt361.2.2.2.2.2.2.2.1 bt361.2.2.2.2.2.2.2.2).bind fun t374 => (if t374 = true then (some true) else (some false)))) else (some false)))) else (some false))))))))) = some r := H
 have A10 := AM_ A100
 clear A100
 by_cases c11 : t320 < 0
 ·rw [if_pos c11] at H
  have c11b0 : decide (t320 < 0) = true := decide_eq_true c11
  clear c11
  obtain rfl := Option.some.inj H
  go_enter Try.func5, Try.ntmps5
  go_wp2_with (first | ((with_reducible refine gate_dst (N := 2) rfl ?_); refine box_event ?hg (N := 2) ?hd (cs := #[.slice A0_0 l0_0.length c0_0]) (t := 39) ?hr ?_; (case hd => rfl); (case hg => rfl); (case hr => first | (go_simp; done) | (go_simp; rfl)); intro gb317 hg w12 hbox hb; have BK317 := AM_ (hbox); have GW317 := AM_ ((GS HB.out hg)); have GE317 := AM_ ((GS HB.out hg)); replace HB := AM_ (below_step (BT HB.out) hb); clear hb hbox hg) | ((with_reducible refine gate_dst (N := 3) rfl ?_); refine box_event ?hg (N := 3) ?hd (cs := #[.int .i64 a1_0, .int .i64 a1_1, .int .i64 a1_2, .int .i64 a1_3, .int .i64 a1_4, .int .i64 a1_5, .int .i64 a1_6, .slice A1_7 l1_7.length c1_7, .slice A1_8 l1_8.length c1_8]) (t := 60) ?hr ?_; (case hd => rfl); (case hg => rfl); (case hr => first | (go_simp; done) | (go_simp; rfl)); intro gb318 hg w13 hbox hb; have BK318 := AM_ (hbox); have GW318 := AM_ ((GS HB.out hg)); have GE318 := AM_ ((GS HB.out hg)); replace HB := AM_ (below_step (BT HB.out) hb); have NB317_318 := AM_ ((NL BK317.out hg)); have NB318_317 := AM_ ((NG BK317.out hg)); replace BK317 := AM_ (BB BK317.out hb); clear hb hbox hg; have hnb14 := NB317_318.out; have hnc14 := NB318_317.out; obtain ⟨hcz15_0, hfz15_0⟩ := bk1 BK317.out) | ((with_reducible refine gate_callee (f := 32) rfl ?_); refine goesL_ (some 12) rfl rfl Try.func32 (by kernel_rfl) rfl #[.agg #[.slice A0_0 l0_0.length c0_0], .int .i64 1048576] rfl (by (try simp only [List.map_toArray, List.map_cons, List.map_nil]); first | done | rfl | (simp only [List.length_drop, List.length_take]; rfl)) ?_; (with_reducible refine (laws_szStore.calls k _ _ l0_0 1048576 t319 _ ?side1 ?side2 A3.out).mono ?_); (case side1 => exact CB HR0_0.out HB.out); (case side2 => exact HC0_0.out); rintro e w16 ⟨rfl, hb⟩; refine ⟨_, rfl, ?_⟩; replace BK317 := AM_ (BB BK317.out hb); replace BK318 := AM_ (BB BK318.out hb); replace HB := AM_ (below_step (BT HB.out) hb); (try clear hb); (try clear hb2); (try clear hk); (try clear hi); obtain ⟨hcz17_0, hcz17_1, hcz17_2, hcz17_3, hcz17_4, hcz17_5, hcz17_6, hcz17_7, hcz17_8, hfz17_0, hfz17_1, hfz17_2, hfz17_3, hfz17_4, hfz17_5, hfz17_6, hfz17_7, hfz17_8⟩ := bk9 BK318.out) | ((with_reducible refine gate_callee (f := 33) rfl ?_); refine goesL_ (some 17) rfl rfl Try.func33 (by kernel_rfl) rfl #[.agg #[.int .i64 a1_0, .int .i64 a1_1, .int .i64 a1_2, .int .i64 a1_3, .int .i64 a1_4, .int .i64 a1_5, .int .i64 a1_6, .slice A1_7 l1_7.length c1_7, .slice A1_8 l1_8.length c1_8], .int .i64 t319] rfl (by (try simp only [List.map_toArray, List.map_cons, List.map_nil]); first | done | rfl | (simp only [List.length_drop, List.length_take]; rfl)) ?_; (with_reducible refine (laws_szTransaction.calls a1_0 a1_1 a1_2 a1_3 a1_4 a1_5 a1_6 _ _ l1_7 _ _ l1_8 t319 t320 _ ?side1 ?side2 ?side3 ?side4 A10.out).mono ?_); (case side1 => exact CB HR1_7.out HB.out); (case side2 => exact HC1_7.out); (case side3 => exact CB HR1_8.out HB.out); (case side4 => exact HC1_8.out); rintro e w18 ⟨rfl, hb⟩; refine ⟨_, rfl, ?_⟩; replace BK317 := AM_ (BB BK317.out hb); replace BK318 := AM_ (BB BK318.out hb); replace HB := AM_ (below_step (BT HB.out) hb); (try clear hb); (try clear hb2); (try clear hk); (try clear hi)))
  go_ret
  exact QT (BT HB.out)
 rw [if_neg c11] at H
 have c11b0 : decide (t320 < 0) = false := decide_eq_false c11
 clear c11
 replace H := Option.bind_eq_some_iff.mp H
 obtain ⟨t321, A190, H⟩ := H
 replace H : ((laws_toTransaction.f k a1_0 a1_1 a1_2 a1_3 a1_4 a1_5 a1_6 l1_7 l1_8).bind fun bt324 => ((spec_CommitCode.f k t321 bt324.1 bt324.2.1 bt324.2.2.1 bt324.2.2.2.1 bt324.2.2.2.2.1 bt324.2.2.2.2.2.1 bt324.2.2.2.2.2.2.1 bt324.2.2.2.2.2.2.2.1 bt324.2.2.2.2.2.2.2.2).bind fun t337 => ((laws_toStore.f k l0_0).bind fun t338 => ((laws_toTransaction.f k a1_0 a1_1 a1_2 a1_3 a1_4 a1_5 a1_6 l1_7 l1_8).bind fun bt342 => ((impl_CommitCode.f k t338 bt342.1 bt342.2.1 bt342.2.2.1 bt342.2.2.2.1 bt342.2.2.2.2.1 bt342.2.2.2.2.2.1 bt342.2.2.2.2.2.2.1 bt342.2.2.2.2.2.2.2.1 bt342.2.2.2.2.2.2.2.2).bind fun t356 => (if t356 = t337 then ((laws_toStore.f k l0_0).bind fun t357 => ((laws_eqStore.f k t338 t357).bind fun t360 => (if t360 = true then ((laws_toTransaction.f k a1_0 a1_1 a1_2 a1_3 a1_4 a1_5 a1_6 l1_7 l1_8).bind fun bt361 => ((laws_eqTransaction.f k bt342.1 bt342.2.1 bt342.2.2.1 bt342.2.2.2.1 bt342.2.2.2.2.1 bt342.2.2.2.2.2.1 bt342.2.2.2.2.2.2.1 bt342.2.2.2.2.2.2.2.1 bt342.2.2.2.2.2.2.2.2 bt361.1 bt361.2.1 bt361.2.2.1 bt361.2.2.2.1 bt361.2.2.2.2.1 bt361.2.2.2.2.2.1 bt361.2.2.2.2.2.2.1 bt361.2.2.2.2.2.2.2.1 bt361.2.2.2.2.2.2.2.2).bind fun t374 => (if t374 = true then (some true) else (some false)))) else (some false)))) else (some false))))))) = some r := H
 have A19 := AM_ A190
 clear A190
 replace H := Option.bind_eq_some_iff.mp H
 obtain ⟨⟨t324, t325, t326, t327, t328, t329, t330, t331, t334⟩, A200, H⟩ := H
 replace H : ((spec_CommitCode.f k t321 t324 t325 t326 t327 t328 t329 t330 t331 t334).bind fun t337 => ((laws_toStore.f k l0_0).bind fun t338 => ((laws_toTransaction.f k a1_0 a1_1 a1_2 a1_3 a1_4 a1_5 a1_6 l1_7 l1_8).bind fun bt342 => ((impl_CommitCode.f k t338 bt342.1 bt342.2.1 bt342.2.2.1 bt342.2.2.2.1 bt342.2.2.2.2.1 bt342.2.2.2.2.2.1 bt342.2.2.2.2.2.2.1 bt342.2.2.2.2.2.2.2.1 bt342.2.2.2.2.2.2.2.2).bind fun t356 => (if t356 = t337 then ((laws_toStore.f k l0_0).bind fun t357 => ((laws_eqStore.f k t338 t357).bind fun t360 => (if t360 = true then ((laws_toTransaction.f k a1_0 a1_1 a1_2 a1_3 a1_4 a1_5 a1_6 l1_7 l1_8).bind fun bt361 => ((laws_eqTransaction.f k bt342.1 bt342.2.1 bt342.2.2.1 bt342.2.2.2.1 bt342.2.2.2.2.1 bt342.2.2.2.2.2.1 bt342.2.2.2.2.2.2.1 bt342.2.2.2.2.2.2.2.1 bt342.2.2.2.2.2.2.2.2 bt361.1 bt361.2.1 bt361.2.2.1 bt361.2.2.2.1 bt361.2.2.2.2.1 bt361.2.2.2.2.2.1 bt361.2.2.2.2.2.2.1 bt361.2.2.2.2.2.2.2.1 bt361.2.2.2.2.2.2.2.2).bind fun t374 => (if t374 = true then (some true) else (some false)))) else (some false)))) else (some false)))))) = some r := H
 have A20 := AM_ A200
 clear A200
 replace H := Option.bind_eq_some_iff.mp H
 obtain ⟨t337, A210, H⟩ := H
 replace H : ((laws_toStore.f k l0_0).bind fun t338 => ((laws_toTransaction.f k a1_0 a1_1 a1_2 a1_3 a1_4 a1_5 a1_6 l1_7 l1_8).bind fun bt342 => ((impl_CommitCode.f k t338 bt342.1 bt342.2.1 bt342.2.2.1 bt342.2.2.2.1 bt342.2.2.2.2.1 bt342.2.2.2.2.2.1 bt342.2.2.2.2.2.2.1 bt342.2.2.2.2.2.2.2.1 bt342.2.2.2.2.2.2.2.2).bind fun t356 => (if t356 = t337 then ((laws_toStore.f k l0_0).bind fun t357 => ((laws_eqStore.f k t338 t357).bind fun t360 => (if t360 = true then ((laws_toTransaction.f k a1_0 a1_1 a1_2 a1_3 a1_4 a1_5 a1_6 l1_7 l1_8).bind fun bt361 => ((laws_eqTransaction.f k bt342.1 bt342.2.1 bt342.2.2.1 bt342.2.2.2.1 bt342.2.2.2.2.1 bt342.2.2.2.2.2.1 bt342.2.2.2.2.2.2.1 bt342.2.2.2.2.2.2.2.1 bt342.2.2.2.2.2.2.2.2 bt361.1 bt361.2.1 bt361.2.2.1 bt361.2.2.2.1 bt361.2.2.2.2.1 bt361.2.2.2.2.2.1 bt361.2.2.2.2.2.2.1 bt361.2.2.2.2.2.2.2.1 bt361.2.2.2.2.2.2.2.2).bind fun t374 => (if t374 = true then (some true) else (some false)))) else (some false)))) else (some false))))) = some r := H
 have A21 := AM_ A210
 clear A210
 replace H := Option.bind_eq_some_iff.mp H
 obtain ⟨t338, A220, H⟩ := H
 replace H : ((laws_toTransaction.f k a1_0 a1_1 a1_2 a1_3 a1_4 a1_5 a1_6 l1_7 l1_8).bind fun bt342 => ((impl_CommitCode.f k t338 bt342.1 bt342.2.1 bt342.2.2.1 bt342.2.2.2.1 bt342.2.2.2.2.1 bt342.2.2.2.2.2.1 bt342.2.2.2.2.2.2.1 bt342.2.2.2.2.2.2.2.1 bt342.2.2.2.2.2.2.2.2).bind fun t356 => (if t356 = t337 then ((laws_toStore.f k l0_0).bind fun t357 => ((laws_eqStore.f k t338 t357).bind fun t360 => (if t360 = true then ((laws_toTransaction.f k a1_0 a1_1 a1_2 a1_3 a1_4 a1_5 a1_6 l1_7 l1_8).bind fun bt361 => ((laws_eqTransaction.f k bt342.1 bt342.2.1 bt342.2.2.1 bt342.2.2.2.1 bt342.2.2.2.2.1 bt342.2.2.2.2.2.1 bt342.2.2.2.2.2.2.1 bt342.2.2.2.2.2.2.2.1 bt342.2.2.2.2.2.2.2.2 bt361.1 bt361.2.1 bt361.2.2.1 bt361.2.2.2.1 bt361.2.2.2.2.1 bt361.2.2.2.2.2.1 bt361.2.2.2.2.2.2.1 bt361.2.2.2.2.2.2.2.1 bt361.2.2.2.2.2.2.2.2).bind fun t374 => (if t374 = true then (some true) else (some false)))) else (some false)))) else (some false)))) = some r := H
 have A22 := AM_ A220
 clear A220
 replace H := Option.bind_eq_some_iff.mp H
 obtain ⟨⟨t342, t343, t344, t345, t346, t347, t348, t349, t352⟩, A230, H⟩ := H
 replace H : ((impl_CommitCode.f k t338 t342 t343 t344 t345 t346 t347 t348 t349 t352).bind fun t356 => (if t356 = t337 then ((laws_toStore.f k l0_0).bind fun t357 => ((laws_eqStore.f k t338 t357).bind fun t360 => (if t360 = true then ((laws_toTransaction.f k a1_0 a1_1 a1_2 a1_3 a1_4 a1_5 a1_6 l1_7 l1_8).bind fun bt361 => ((laws_eqTransaction.f k t342 t343 t344 t345 t346 t347 t348 t349 t352 bt361.1 bt361.2.1 bt361.2.2.1 bt361.2.2.2.1 bt361.2.2.2.2.1 bt361.2.2.2.2.2.1 bt361.2.2.2.2.2.2.1 bt361.2.2.2.2.2.2.2.1 bt361.2.2.2.2.2.2.2.2).bind fun t374 => (if t374 = true then (some true) else (some false)))) else (some false)))) else (some false))) = some r := H
 have A23 := AM_ A230
 clear A230
 replace H := Option.bind_eq_some_iff.mp H
 obtain ⟨t356, A240, H⟩ := H
 replace H : (if t356 = t337 then ((laws_toStore.f k l0_0).bind fun t357 => ((laws_eqStore.f k t338 t357).bind fun t360 => (if t360 = true then ((laws_toTransaction.f k a1_0 a1_1 a1_2 a1_3 a1_4 a1_5 a1_6 l1_7 l1_8).bind fun bt361 => ((laws_eqTransaction.f k t342 t343 t344 t345 t346 t347 t348 t349 t352 bt361.1 bt361.2.1 bt361.2.2.1 bt361.2.2.2.1 bt361.2.2.2.2.1 bt361.2.2.2.2.2.1 bt361.2.2.2.2.2.2.1 bt361.2.2.2.2.2.2.2.1 bt361.2.2.2.2.2.2.2.2).bind fun t374 => (if t374 = true then (some true) else (some false)))) else (some false)))) else (some false)) = some r := H
 have A24 := AM_ A240
 clear A240
 by_cases c25 : t356 = t337
 rotate_left
 ·rw [if_neg c25] at H
  have c25b0 : (t356 == t337) = false := beq_eq_false_iff_ne.mpr c25
  have c25b1 : (t356 != t337) = true := bne_iff_ne.mpr c25
  obtain rfl := Option.some.inj H
  go_enter Try.func5, Try.ntmps5
  try go_wp2_with (first | ((with_reducible refine gate_dst (N := 2) rfl ?_); refine box_event ?hg (N := 2) ?hd (cs := #[.slice A0_0 l0_0.length c0_0]) (t := 39) ?hr ?_; (case hd => rfl); (case hg => rfl); (case hr => first | (go_simp; done) | (go_simp; rfl)); intro gb317 hg w150 hbox hb; have BK317 := AM_ (hbox); have GW317 := AM_ ((GS HB.out hg)); have GE317 := AM_ ((GS HB.out hg)); replace HB := AM_ (below_step (BT HB.out) hb); clear hb hbox hg) | ((with_reducible refine gate_dst (N := 3) rfl ?_); refine box_event ?hg (N := 3) ?hd (cs := #[.int .i64 a1_0, .int .i64 a1_1, .int .i64 a1_2, .int .i64 a1_3, .int .i64 a1_4, .int .i64 a1_5, .int .i64 a1_6, .slice A1_7 l1_7.length c1_7, .slice A1_8 l1_8.length c1_8]) (t := 60) ?hr ?_; (case hd => rfl); (case hg => rfl); (case hr => first | (go_simp; done) | (go_simp; rfl)); intro gb318 hg w151 hbox hb; have BK318 := AM_ (hbox); have GW318 := AM_ ((GS HB.out hg)); have GE318 := AM_ ((GS HB.out hg)); replace HB := AM_ (below_step (BT HB.out) hb); have NB317_318 := AM_ ((NL BK317.out hg)); have NB318_317 := AM_ ((NG BK317.out hg)); replace BK317 := AM_ (BB BK317.out hb); clear hb hbox hg; have hnb152 := NB317_318.out; have hnc152 := NB318_317.out; obtain ⟨hcz153_0, hfz153_0⟩ := bk1 BK317.out) | ((with_reducible refine gate_callee (f := 32) rfl ?_); refine goesL_ (some 12) rfl rfl Try.func32 (by kernel_rfl) rfl #[.agg #[.slice A0_0 l0_0.length c0_0], .int .i64 1048576] rfl (by (try simp only [List.map_toArray, List.map_cons, List.map_nil]); first | done | rfl | (simp only [List.length_drop, List.length_take]; rfl)) ?_; (with_reducible refine (laws_szStore.calls k _ _ l0_0 1048576 t319 _ ?side1 ?side2 A3.out).mono ?_); (case side1 => exact CB HR0_0.out HB.out); (case side2 => exact HC0_0.out); rintro e w154 ⟨rfl, hb⟩; refine ⟨_, rfl, ?_⟩; replace BK317 := AM_ (BB BK317.out hb); replace BK318 := AM_ (BB BK318.out hb); replace HB := AM_ (below_step (BT HB.out) hb); (try clear hb); (try clear hb2); (try clear hk); (try clear hi); obtain ⟨hcz155_0, hcz155_1, hcz155_2, hcz155_3, hcz155_4, hcz155_5, hcz155_6, hcz155_7, hcz155_8, hfz155_0, hfz155_1, hfz155_2, hfz155_3, hfz155_4, hfz155_5, hfz155_6, hfz155_7, hfz155_8⟩ := bk9 BK318.out) | ((with_reducible refine gate_callee (f := 33) rfl ?_); refine goesL_ (some 17) rfl rfl Try.func33 (by kernel_rfl) rfl #[.agg #[.int .i64 a1_0, .int .i64 a1_1, .int .i64 a1_2, .int .i64 a1_3, .int .i64 a1_4, .int .i64 a1_5, .int .i64 a1_6, .slice A1_7 l1_7.length c1_7, .slice A1_8 l1_8.length c1_8], .int .i64 t319] rfl (by (try simp only [List.map_toArray, List.map_cons, List.map_nil]); first | done | rfl | (simp only [List.length_drop, List.length_take]; rfl)) ?_; (with_reducible refine (laws_szTransaction.calls a1_0 a1_1 a1_2 a1_3 a1_4 a1_5 a1_6 _ _ l1_7 _ _ l1_8 t319 t320 _ ?side1 ?side2 ?side3 ?side4 A10.out).mono ?_); (case side1 => exact CB HR1_7.out HB.out); (case side2 => exact HC1_7.out); (case side3 => exact CB HR1_8.out HB.out); (case side4 => exact HC1_8.out); rintro e w156 ⟨rfl, hb⟩; refine ⟨_, rfl, ?_⟩; replace BK317 := AM_ (BB BK317.out hb); replace BK318 := AM_ (BB BK318.out hb); replace HB := AM_ (below_step (BT HB.out) hb); (try clear hb); (try clear hb2); (try clear hk); (try clear hi)))
  replace BK317 := AM_ (blk_drew BK317.out)
  replace BK318 := AM_ (blk_drew BK318.out)
  replace HB := AM_ (below_drew1 HB.out)
  refine start_ (n := 6) (S := fun w' => w'.cell? ⟨gb317, 0, none⟩ = some (.slice A0_0 l0_0.length c0_0) ∧ w'.cell? ⟨gb318, 0, none⟩ = some (.int .i64 a1_0) ∧ w'.cell? ⟨gb318, 1, none⟩ = some (.int .i64 a1_1) ∧ w'.cell? ⟨gb318, 2, none⟩ = some (.int .i64 a1_2) ∧ w'.cell? ⟨gb318, 3, none⟩ = some (.int .i64 a1_3) ∧ w'.cell? ⟨gb318, 4, none⟩ = some (.int .i64 a1_4) ∧ w'.cell? ⟨gb318, 5, none⟩ = some (.int .i64 a1_5) ∧ w'.cell? ⟨gb318, 6, none⟩ = some (.int .i64 a1_6) ∧ w'.cell? ⟨gb318, 7, none⟩ = some (.slice A1_7 l1_7.length c1_7) ∧ w'.cell? ⟨gb318, 8, none⟩ = some (.slice A1_8 l1_8.length c1_8)) (ds := []) (bs 0 6) (by kernel_rfl) rfl rfl ⟨bc BK317.out 0, bc BK318.out 0, bc BK318.out 1, bc BK318.out 2, bc BK318.out 3, bc BK318.out 4, bc BK318.out 5, bc BK318.out 6, bc BK318.out 7, bc BK318.out 8⟩ (fun hHeld => ?_)
  generalize w156.drew = w157 at BK317 BK318 HB hHeld ⊢
  refine take_ (i := 0) (N := some 20) (v := ?_) (a' := ?_) (bs 1 6) rfl rfl (by kernel_rfl) (fun _ _ _ h => h) (Or.inl ⟨by rfl, ?_⟩) hHeld ?_ ?_
  rotate_left
  ·rintro w' ⟨s0, s1, s2, s3, s4, s5, s6, s7, s8, s9⟩
   go_simp
   with_reducible rfl
  rotate_left
  ·simp only [pA, pS, pZ, pK, i64_w, i32_w]
   rfl
  refine take_ (i := 2) (N := some 22) (v := ?_) (a' := ?_) (bs 5 6) rfl rfl (by kernel_rfl) (fun _ _ _ h => h) (Or.inl ⟨by rfl, ?_⟩) hHeld ?_ ?_
  rotate_left
  ·rintro w' ⟨s0, s1, s2, s3, s4, s5, s6, s7, s8, s9⟩
   go_simp
   with_reducible rfl
  rotate_left
  ·simp only [pA, pS, pZ, pK, i64_w, i32_w]
   rfl
  refine one_ (i := 1) (N := some 21) (bs 7 6) rfl rfl (by kernel_rfl) (by decide) (fun K hK => ?_)
  refine goes_ Try.func35 (by kernel_rfl) rfl #[.agg #[.slice A0_0 l0_0.length c0_0]] (by rfl) rfl rfl (by (try simp only [List.map_toArray, List.map_cons, List.map_nil]); first | done | rfl | (simp only [List.length_drop, List.length_take]; rfl)) ?_
  with_reducible refine (laws_toStore.calls k _ _ l0_0 t321 _ ?side1 ?side2 A19.out).mono ?_
  (case side1 => exact CB HR0_0.out HB.out)
  (case side2 => exact HC0_0.out)
  rintro e w158 ⟨v322, rfl, ho0, hb⟩
  refine ⟨_, rfl, ?_⟩
  have HO323 := AM_ (Kd.S_lower ho0 (below_size (BT HB.out)))
  replace BK317 := AM_ (BB BK317.out hb)
  replace BK318 := AM_ (BB BK318.out hb)
  replace HB := AM_ (below_step (BT HB.out) hb)
  (try clear hb)
  (try clear hb2)
  (try clear hk)
  (try clear hi)
  (try clear ho0)
  refine hK.out _ _ ⟨bc BK317.out 0, bc BK318.out 0, bc BK318.out 1, bc BK318.out 2, bc BK318.out 3, bc BK318.out 4, bc BK318.out 5, bc BK318.out 6, bc BK318.out 7, bc BK318.out 8⟩ (fun hHeld => ?_)
  clear hK K
  refine norm_ (a' := ?_) ?_ ?_
  rotate_left
  ·show Act.put _ (some 21) _ = _
   simp only [pA, pS, pZ, pK, i64_w, i32_w]
   rfl
  refine one_ (i := 3) (N := some 23) (bs 15 6) rfl rfl (by kernel_rfl) (by decide) (fun K hK => ?_)
  refine goes_ Try.func36 (by kernel_rfl) rfl #[.agg #[.int .i64 a1_0, .int .i64 a1_1, .int .i64 a1_2, .int .i64 a1_3, .int .i64 a1_4, .int .i64 a1_5, .int .i64 a1_6, .slice A1_7 l1_7.length c1_7, .slice A1_8 l1_8.length c1_8]] (by rfl) rfl rfl (by (try simp only [List.map_toArray, List.map_cons, List.map_nil]); first | done | rfl | (simp only [List.length_drop, List.length_take]; rfl)) ?_
  with_reducible refine (laws_toTransaction.calls k a1_0 a1_1 a1_2 a1_3 a1_4 a1_5 a1_6 _ _ l1_7 _ _ l1_8 t324 t325 t326 t327 t328 t329 t330 t331 t334 _ ?side1 ?side2 ?side3 ?side4 A20.out).mono ?_
  (case side1 => exact CB HR1_7.out HB.out)
  (case side2 => exact HC1_7.out)
  (case side3 => exact CB HR1_8.out HB.out)
  (case side4 => exact HC1_8.out)
  rintro e w159 ⟨v332, v335, rfl, ho0, ho1, hb⟩
  refine ⟨_, rfl, ?_⟩
  replace HO323 := AM_ (Kd.S_below (ST HO323.out) hb)
  have HO333 := AM_ (Kd.R_lower ho0 (below_size (BT HB.out)))
  have HO336 := AM_ (Kd.R_lower ho1 (below_size (BT HB.out)))
  replace BK317 := AM_ (BB BK317.out hb)
  replace BK318 := AM_ (BB BK318.out hb)
  replace HB := AM_ (below_step (BT HB.out) hb)
  (try clear hb)
  (try clear hb2)
  (try clear hk)
  (try clear hi)
  (try clear ho0)
  (try clear ho1)
  obtain ⟨Ao160, co160, eo160⟩ := Kd.S_slice HO323.out
  (first | subst eo160 | (injection eo160 with f1_ f2_ f3_; have f4_ := f1_.symm; have f5_ := f3_.symm; clear f1_ f2_ f3_; subst f4_; subst f5_))
  obtain ⟨Ao161, co161, eo161⟩ := Kd.R_slice HO333.out
  (first | subst eo161 | (injection eo161 with f1_ f2_ f3_; have f4_ := f1_.symm; have f5_ := f3_.symm; clear f1_ f2_ f3_; subst f4_; subst f5_))
  obtain ⟨Ao162, co162, eo162⟩ := Kd.R_slice HO336.out
  (first | subst eo162 | (injection eo162 with f1_ f2_ f3_; have f4_ := f1_.symm; have f5_ := f3_.symm; clear f1_ f2_ f3_; subst f4_; subst f5_))
  refine hK.out _ _ ⟨bc BK317.out 0, bc BK318.out 0, bc BK318.out 1, bc BK318.out 2, bc BK318.out 3, bc BK318.out 4, bc BK318.out 5, bc BK318.out 6, bc BK318.out 7, bc BK318.out 8⟩ (fun hHeld => ?_)
  clear hK K
  refine norm_ (a' := ?_) ?_ ?_
  rotate_left
  ·show Act.put _ (some 23) _ = _
   simp only [pA, pS, pZ, pK, i64_w, i32_w]
   rfl
  refine one_ (i := 4) (N := some 24) (bs 31 6) rfl rfl (by kernel_rfl) (by decide) (fun K hK => ?_)
  refine goes_ Try.func34 (by kernel_rfl) rfl #[.agg #[.slice Ao160 t321.length co160], .agg #[.int .i64 t324, .int .i64 t325, .int .i64 t326, .int .i64 t327, .int .i64 t328, .int .i64 t329, .int .i64 t330, .slice Ao161 t331.length co161, .slice Ao162 t334.length co162]] (by rfl) rfl rfl (by (try simp only [List.map_toArray, List.map_cons, List.map_nil]); first | done | rfl | (simp only [List.length_drop, List.length_take]; rfl)) ?_
  with_reducible refine (spec_CommitCode.calls k _ _ t321 t324 t325 t326 t327 t328 t329 t330 _ _ t331 _ _ t334 t337 _ ?side1 ?side2 ?side3 ?side4 ?side5 ?side6 A21.out).mono ?_
  (case side1 => exact Kd.C_below (Kd.S_reads' HO323.out).2.2 (BL (Below.refl _ _) rfl rfl rfl rfl))
  (case side2 => exact (Kd.S_reads' HO323.out).2.1)
  (case side3 => exact Kd.C_below (Kd.R_reads' HO333.out).2.2 (BL (Below.refl _ _) rfl rfl rfl rfl))
  (case side4 => exact (Kd.R_reads' HO333.out).2.1)
  (case side5 => exact Kd.C_below (Kd.R_reads' HO336.out).2.2 (BL (Below.refl _ _) rfl rfl rfl rfl))
  (case side6 => exact (Kd.R_reads' HO336.out).2.1)
  rintro e w163 ⟨rfl, hb⟩
  refine ⟨_, rfl, ?_⟩
  replace HO323 := AM_ (Kd.S_below (ST HO323.out) hb)
  replace HO333 := AM_ (Kd.R_below (RT HO333.out) hb)
  replace HO336 := AM_ (Kd.R_below (RT HO336.out) hb)
  replace BK317 := AM_ (BB BK317.out hb)
  replace BK318 := AM_ (BB BK318.out hb)
  replace HB := AM_ (below_step (BT HB.out) hb)
  (try clear hb)
  (try clear hb2)
  (try clear hk)
  (try clear hi)
  refine hK.out _ _ ⟨bc BK317.out 0, bc BK318.out 0, bc BK318.out 1, bc BK318.out 2, bc BK318.out 3, bc BK318.out 4, bc BK318.out 5, bc BK318.out 6, bc BK318.out 7, bc BK318.out 8⟩ (fun hHeld => ?_)
  clear hK K
  refine norm_ (a' := ?_) ?_ ?_
  rotate_left
  ·show Act.put _ (some 24) _ = _
   simp only [pA, pS, pZ, pK, i64_w, i32_w]
   rfl
  refine pure_ (i := 5) (N := some 6) (v := ?_) (a' := ?_) (bs 63 6) rfl rfl (by kernel_rfl) (fun _ _ _ h => h) (Or.inl ⟨by rfl, ?_⟩) ?_ ?_
  rotate_left
  ·intro w'
   go_simp
   with_reducible rfl
  rotate_left
  ·simp only [pA, pS, pZ, pK, i64_w, i32_w]
   rfl
  refine done_ (by kernel_rfl) ?_
  obtain ⟨hcz164_0, hfz164_0⟩ := bk1 BK317.out
  try go_wp2_with (first | ((with_reducible refine gate_callee (f := 35) rfl ?_); refine goesL_ (some 26) rfl rfl Try.func35 (by kernel_rfl) rfl #[.agg #[.slice A0_0 l0_0.length c0_0]] rfl (by (try simp only [List.map_toArray, List.map_cons, List.map_nil]); first | done | rfl | (simp only [List.length_drop, List.length_take]; rfl)) ?_; (with_reducible refine (laws_toStore.calls k _ _ l0_0 t338 _ ?side1 ?side2 A22.out).mono ?_); (case side1 => exact CB HR0_0.out HB.out); (case side2 => exact HC0_0.out); rintro e w165 ⟨v339, rfl, ho0, hb⟩; refine ⟨_, rfl, ?_⟩; replace HO333 := AM_ (Kd.R_below (RT HO333.out) hb); replace HO336 := AM_ (Kd.R_below (RT HO336.out) hb); have HO340 := AM_ (Kd.S_lower (Kd.S_new' ho0 (Kd.S_lt (ST HO323.out))) (below_size (BT HB.out))); replace HO323 := AM_ (Kd.S_elder' (ST HO323.out) (Kd.S_base ho0) hb); replace BK317 := AM_ (BB BK317.out hb); replace BK318 := AM_ (BB BK318.out hb); replace HB := AM_ (below_step (BT HB.out) hb); (try clear hb); (try clear hb2); (try clear hk); (try clear hi); (try clear ho0)) | ((with_reducible refine gate_dst (N := 7) rfl ?_); refine box_event ?hg (N := 7) ?hd (cs := #[.slice none 0 0]) (t := 49) ?hr ?_; (case hd => rfl); (case hg => rfl); (case hr => first | (go_simp; done) | (go_simp; rfl)); intro gb341 hg w166 hbox hb; replace HO323 := AM_ (Kd.S_below (ST HO323.out) hb); replace HO333 := AM_ (Kd.R_below (RT HO333.out) hb); replace HO336 := AM_ (Kd.R_below (RT HO336.out) hb); replace HO340 := AM_ (Kd.S_below (ST HO340.out) hb); have BK341 := AM_ (hbox); have GW341 := AM_ ((GS HB.out hg)); have GE341 := AM_ ((GS HB.out hg)); replace HB := AM_ (below_step (BT HB.out) hb); have NB317_341 := AM_ ((NL BK317.out hg)); have NB341_317 := AM_ ((NG BK317.out hg)); replace BK317 := AM_ (BB BK317.out hb); have NB318_341 := AM_ ((NL BK318.out hg)); have NB341_318 := AM_ ((NG BK318.out hg)); replace BK318 := AM_ (BB BK318.out hb); clear hb hbox hg; obtain ⟨Ao167, co167, eo167⟩ := Kd.S_slice HO340.out; subst eo167; have hnb168 := NB341_317.out; have hnc168 := NB317_341.out; have hnb169 := NB341_318.out; have hnc169 := NB318_341.out; obtain ⟨hcz170_0, hfz170_0⟩ := bk1 BK341.out; obtain ⟨hcz171_0, hcz171_1, hcz171_2, hcz171_3, hcz171_4, hcz171_5, hcz171_6, hcz171_7, hcz171_8, hfz171_0, hfz171_1, hfz171_2, hfz171_3, hfz171_4, hfz171_5, hfz171_6, hfz171_7, hfz171_8⟩ := bk9 BK318.out) | ((with_reducible refine gate_callee (f := 36) rfl ?_); refine goesL_ (some 28) rfl rfl Try.func36 (by kernel_rfl) rfl #[.agg #[.int .i64 a1_0, .int .i64 a1_1, .int .i64 a1_2, .int .i64 a1_3, .int .i64 a1_4, .int .i64 a1_5, .int .i64 a1_6, .slice A1_7 l1_7.length c1_7, .slice A1_8 l1_8.length c1_8]] rfl (by (try simp only [List.map_toArray, List.map_cons, List.map_nil]); first | done | rfl | (simp only [List.length_drop, List.length_take]; rfl)) ?_; (with_reducible refine (laws_toTransaction.calls k a1_0 a1_1 a1_2 a1_3 a1_4 a1_5 a1_6 _ _ l1_7 _ _ l1_8 t342 t343 t344 t345 t346 t347 t348 t349 t352 _ ?side1 ?side2 ?side3 ?side4 A23.out).mono ?_); (case side1 => exact Kd.C_below HR1_7.out (BT HB.out)); (case side2 => exact HC1_7.out); (case side3 => exact Kd.C_below HR1_8.out (BT HB.out)); (case side4 => exact HC1_8.out); rintro e w172 ⟨v350, v353, rfl, ho0, ho1, hb⟩; refine ⟨_, rfl, ?_⟩; replace HO323 := AM_ (Kd.S_below (SF HO323.out BK341.out) hb); replace HO340 := AM_ (Kd.S_below (SF HO340.out BK341.out) hb); have HO351 := AM_ (Kd.R_lower (Kd.R_new' ho0 (Kd.R_lt (RF HO333.out BK341.out))) (below_size (BT HB.out))); replace HO333 := AM_ (Kd.R_elder' (RF HO333.out BK341.out) (Kd.R_base ho0) hb); have HO354 := AM_ (Kd.R_lower (Kd.R_new' ho1 (Kd.R_lt (RF HO336.out BK341.out))) (below_size (BT HB.out))); replace HO336 := AM_ (Kd.R_elder' (RF HO336.out BK341.out) (Kd.R_base ho1) hb); replace BK317 := AM_ (blk_below (g := gb317) (o := .cells #[.slice A0_0 l0_0.length c0_0] 39 (0, 0)) (by (with_reducible repeat (first | refine blk_drewN ?_ _ | refine blk_drew ?_ | refine blk_alloc ?_ _)); refine blk_far ?_ NB317_341.out _; (with_reducible repeat (first | refine blk_drewN ?_ _ | refine blk_drew ?_ | refine blk_alloc ?_ _)); exact BK317.out) hb); replace BK318 := AM_ (blk_below (g := gb318) (o := .cells #[.int .i64 a1_0, .int .i64 a1_1, .int .i64 a1_2, .int .i64 a1_3, .int .i64 a1_4, .int .i64 a1_5, .int .i64 a1_6, .slice A1_7 l1_7.length c1_7, .slice A1_8 l1_8.length c1_8] 60 (0, 0)) (by (with_reducible repeat (first | refine blk_drewN ?_ _ | refine blk_drew ?_ | refine blk_alloc ?_ _)); refine blk_far ?_ NB318_341.out _; (with_reducible repeat (first | refine blk_drewN ?_ _ | refine blk_drew ?_ | refine blk_alloc ?_ _)); exact BK318.out) hb); replace BK341 := AM_ (blk_below (g := gb341) (o := .cells #[.slice Ao167 t338.length co167] 49 (0, 0)) (by (with_reducible repeat (first | refine blk_drewN ?_ _ | refine blk_drew ?_ | refine blk_alloc ?_ _)); refine blk_put (cs := #[.slice none 0 0]) ?_ 0 _ rfl; (with_reducible repeat (first | refine blk_drewN ?_ _ | refine blk_drew ?_ | refine blk_alloc ?_ _)); exact BK341.out) hb); replace HB := AM_ (below_step (BT HB.out) hb); (try clear hb); (try clear hb2); (try clear hk); (try clear hi); (try clear ho0); (try clear ho1)) | ((with_reducible refine gate_dst (N := 8) rfl ?_); refine box_event ?hg (N := 8) ?hd (cs := #[.int .i64 0, .int .i64 0, .int .i64 0, .int .i64 0, .int .i64 0, .int .i64 0, .int .i64 0, .slice none 0 0, .slice none 0 0]) (t := 68) ?hr ?_; (case hd => rfl); (case hg => rfl); (case hr => first | (go_simp; done) | (go_simp; rfl)); intro gb355 hg w173 hbox hb; replace HO323 := AM_ (Kd.S_below (ST HO323.out) hb); replace HO333 := AM_ (Kd.R_below (RT HO333.out) hb); replace HO336 := AM_ (Kd.R_below (RT HO336.out) hb); replace HO340 := AM_ (Kd.S_below (ST HO340.out) hb); replace HO351 := AM_ (Kd.R_below (RT HO351.out) hb); replace HO354 := AM_ (Kd.R_below (RT HO354.out) hb); have BK355 := AM_ (hbox); have GW355 := AM_ ((GS HB.out hg)); have GE355 := AM_ ((GS HB.out hg)); replace HB := AM_ (below_step (BT HB.out) hb); have NB317_355 := AM_ ((NL BK317.out hg)); have NB355_317 := AM_ ((NG BK317.out hg)); replace BK317 := AM_ (BB BK317.out hb); have NB318_355 := AM_ ((NL BK318.out hg)); have NB355_318 := AM_ ((NG BK318.out hg)); replace BK318 := AM_ (BB BK318.out hb); have NB341_355 := AM_ ((NL BK341.out hg)); have NB355_341 := AM_ ((NG BK341.out hg)); replace BK341 := AM_ (BB BK341.out hb); clear hb hbox hg; have hnb174 := NB355_317.out; have hnc174 := NB317_355.out; have hnb175 := NB355_318.out; have hnc175 := NB318_355.out; have hnb176 := NB355_341.out; have hnc176 := NB341_355.out; obtain ⟨hcz177_0, hcz177_1, hcz177_2, hcz177_3, hcz177_4, hcz177_5, hcz177_6, hcz177_7, hcz177_8, hfz177_0, hfz177_1, hfz177_2, hfz177_3, hfz177_4, hfz177_5, hfz177_6, hfz177_7, hfz177_8⟩ := bk9 BK355.out; obtain ⟨Ao178, co178, eo178⟩ := Kd.R_slice HO351.out; subst eo178; obtain ⟨Ao179, co179, eo179⟩ := Kd.R_slice HO354.out; subst eo179; obtain ⟨hcz180_0, hfz180_0⟩ := bk1 BK341.out) | ((with_reducible refine gate_callee (f := 37) rfl ?_); refine goesL_ (some 31) rfl rfl Try.func37 (by kernel_rfl) rfl #[.agg #[.slice Ao167 t338.length co167], .agg #[.int .i64 t342, .int .i64 t343, .int .i64 t344, .int .i64 t345, .int .i64 t346, .int .i64 t347, .int .i64 t348, .slice Ao178 t349.length co178, .slice Ao179 t352.length co179]] rfl (by (try simp only [List.map_toArray, List.map_cons, List.map_nil]); first | done | rfl | (simp only [List.length_drop, List.length_take]; rfl)) ?_; (with_reducible refine (impl_CommitCode.calls k _ _ t338 t342 t343 t344 t345 t346 t347 t348 _ _ t349 _ _ t352 t356 _ ?side1 ?side2 ?side3 ?side4 ?side5 ?side6 A24.out).mono ?_); (case side1 => exact CG HO340.out BK355.out); (case side2 => exact (Kd.S_reads' HO340.out).2.1); (case side3 => exact CF HO351.out BK355.out); (case side4 => exact (Kd.R_reads' HO351.out).2.1); (case side5 => exact CF HO354.out BK355.out); (case side6 => exact (Kd.R_reads' HO354.out).2.1); rintro e w181 ⟨rfl, hb⟩; refine ⟨_, rfl, ?_⟩; replace HO323 := AM_ (Kd.S_below (SF HO323.out BK355.out) hb); replace HO333 := AM_ (Kd.R_below (RF HO333.out BK355.out) hb); replace HO336 := AM_ (Kd.R_below (RF HO336.out BK355.out) hb); replace HO340 := AM_ (Kd.S_below (SF HO340.out BK355.out) hb); replace HO351 := AM_ (Kd.R_below (RF HO351.out BK355.out) hb); replace HO354 := AM_ (Kd.R_below (RF HO354.out BK355.out) hb); replace BK317 := AM_ (blk_below (g := gb317) (o := .cells #[.slice A0_0 l0_0.length c0_0] 39 (0, 0)) (by (with_reducible repeat (first | refine blk_drewN ?_ _ | refine blk_drew ?_ | refine blk_alloc ?_ _)); refine blk_far ?_ NB317_355.out _; (with_reducible repeat (first | refine blk_drewN ?_ _ | refine blk_drew ?_ | refine blk_alloc ?_ _)); refine blk_far ?_ NB317_355.out _; (with_reducible repeat (first | refine blk_drewN ?_ _ | refine blk_drew ?_ | refine blk_alloc ?_ _)); refine blk_far ?_ NB317_355.out _; (with_reducible repeat (first | refine blk_drewN ?_ _ | refine blk_drew ?_ | refine blk_alloc ?_ _)); refine blk_far ?_ NB317_355.out _; (with_reducible repeat (first | refine blk_drewN ?_ _ | refine blk_drew ?_ | refine blk_alloc ?_ _)); refine blk_far ?_ NB317_355.out _; (with_reducible repeat (first | refine blk_drewN ?_ _ | refine blk_drew ?_ | refine blk_alloc ?_ _)); refine blk_far ?_ NB317_355.out _; (with_reducible repeat (first | refine blk_drewN ?_ _ | refine blk_drew ?_ | refine blk_alloc ?_ _)); refine blk_far ?_ NB317_355.out _; (with_reducible repeat (first | refine blk_drewN ?_ _ | refine blk_drew ?_ | refine blk_alloc ?_ _)); refine blk_far ?_ NB317_355.out _; (with_reducible repeat (first | refine blk_drewN ?_ _ | refine blk_drew ?_ | refine blk_alloc ?_ _)); refine blk_far ?_ NB317_355.out _; (with_reducible repeat (first | refine blk_drewN ?_ _ | refine blk_drew ?_ | refine blk_alloc ?_ _)); exact BK317.out) hb); replace BK318 := AM_ (blk_below (g := gb318) (o := .cells #[.int .i64 a1_0, .int .i64 a1_1, .int .i64 a1_2, .int .i64 a1_3, .int .i64 a1_4, .int .i64 a1_5, .int .i64 a1_6, .slice A1_7 l1_7.length c1_7, .slice A1_8 l1_8.length c1_8] 60 (0, 0)) (by (with_reducible repeat (first | refine blk_drewN ?_ _ | refine blk_drew ?_ | refine blk_alloc ?_ _)); refine blk_far ?_ NB318_355.out _; (with_reducible repeat (first | refine blk_drewN ?_ _ | refine blk_drew ?_ | refine blk_alloc ?_ _)); refine blk_far ?_ NB318_355.out _; (with_reducible repeat (first | refine blk_drewN ?_ _ | refine blk_drew ?_ | refine blk_alloc ?_ _)); refine blk_far ?_ NB318_355.out _; (with_reducible repeat (first | refine blk_drewN ?_ _ | refine blk_drew ?_ | refine blk_alloc ?_ _)); refine blk_far ?_ NB318_355.out _; (with_reducible repeat (first | refine blk_drewN ?_ _ | refine blk_drew ?_ | refine blk_alloc ?_ _)); refine blk_far ?_ NB318_355.out _; (with_reducible repeat (first | refine blk_drewN ?_ _ | refine blk_drew ?_ | refine blk_alloc ?_ _)); refine blk_far ?_ NB318_355.out _; (with_reducible repeat (first | refine blk_drewN ?_ _ | refine blk_drew ?_ | refine blk_alloc ?_ _)); refine blk_far ?_ NB318_355.out _; (with_reducible repeat (first | refine blk_drewN ?_ _ | refine blk_drew ?_ | refine blk_alloc ?_ _)); refine blk_far ?_ NB318_355.out _; (with_reducible repeat (first | refine blk_drewN ?_ _ | refine blk_drew ?_ | refine blk_alloc ?_ _)); refine blk_far ?_ NB318_355.out _; (with_reducible repeat (first | refine blk_drewN ?_ _ | refine blk_drew ?_ | refine blk_alloc ?_ _)); exact BK318.out) hb); replace BK341 := AM_ (blk_below (g := gb341) (o := .cells #[.slice Ao167 t338.length co167] 49 (0, 0)) (by (with_reducible repeat (first | refine blk_drewN ?_ _ | refine blk_drew ?_ | refine blk_alloc ?_ _)); refine blk_far ?_ NB341_355.out _; (with_reducible repeat (first | refine blk_drewN ?_ _ | refine blk_drew ?_ | refine blk_alloc ?_ _)); refine blk_far ?_ NB341_355.out _; (with_reducible repeat (first | refine blk_drewN ?_ _ | refine blk_drew ?_ | refine blk_alloc ?_ _)); refine blk_far ?_ NB341_355.out _; (with_reducible repeat (first | refine blk_drewN ?_ _ | refine blk_drew ?_ | refine blk_alloc ?_ _)); refine blk_far ?_ NB341_355.out _; (with_reducible repeat (first | refine blk_drewN ?_ _ | refine blk_drew ?_ | refine blk_alloc ?_ _)); refine blk_far ?_ NB341_355.out _; (with_reducible repeat (first | refine blk_drewN ?_ _ | refine blk_drew ?_ | refine blk_alloc ?_ _)); refine blk_far ?_ NB341_355.out _; (with_reducible repeat (first | refine blk_drewN ?_ _ | refine blk_drew ?_ | refine blk_alloc ?_ _)); refine blk_far ?_ NB341_355.out _; (with_reducible repeat (first | refine blk_drewN ?_ _ | refine blk_drew ?_ | refine blk_alloc ?_ _)); refine blk_far ?_ NB341_355.out _; (with_reducible repeat (first | refine blk_drewN ?_ _ | refine blk_drew ?_ | refine blk_alloc ?_ _)); refine blk_far ?_ NB341_355.out _; (with_reducible repeat (first | refine blk_drewN ?_ _ | refine blk_drew ?_ | refine blk_alloc ?_ _)); exact BK341.out) hb); replace BK355 := AM_ (blk_below (g := gb355) (o := .cells #[.int .i64 t342, .int .i64 t343, .int .i64 t344, .int .i64 t345, .int .i64 t346, .int .i64 t347, .int .i64 t348, .slice Ao178 t349.length co178, .slice Ao179 t352.length co179] 68 (0, 0)) (by (with_reducible repeat (first | refine blk_drewN ?_ _ | refine blk_drew ?_ | refine blk_alloc ?_ _)); refine blk_put (cs := #[.int .i64 t342, .int .i64 t343, .int .i64 t344, .int .i64 t345, .int .i64 t346, .int .i64 t347, .int .i64 t348, .slice Ao178 t349.length co178, .slice none 0 0]) ?_ 8 _ rfl; (with_reducible repeat (first | refine blk_drewN ?_ _ | refine blk_drew ?_ | refine blk_alloc ?_ _)); refine blk_put (cs := #[.int .i64 t342, .int .i64 t343, .int .i64 t344, .int .i64 t345, .int .i64 t346, .int .i64 t347, .int .i64 t348, .slice none 0 0, .slice none 0 0]) ?_ 7 _ rfl; (with_reducible repeat (first | refine blk_drewN ?_ _ | refine blk_drew ?_ | refine blk_alloc ?_ _)); refine blk_put (cs := #[.int .i64 t342, .int .i64 t343, .int .i64 t344, .int .i64 t345, .int .i64 t346, .int .i64 t347, .int .i64 0, .slice none 0 0, .slice none 0 0]) ?_ 6 _ rfl; (with_reducible repeat (first | refine blk_drewN ?_ _ | refine blk_drew ?_ | refine blk_alloc ?_ _)); refine blk_put (cs := #[.int .i64 t342, .int .i64 t343, .int .i64 t344, .int .i64 t345, .int .i64 t346, .int .i64 0, .int .i64 0, .slice none 0 0, .slice none 0 0]) ?_ 5 _ rfl; (with_reducible repeat (first | refine blk_drewN ?_ _ | refine blk_drew ?_ | refine blk_alloc ?_ _)); refine blk_put (cs := #[.int .i64 t342, .int .i64 t343, .int .i64 t344, .int .i64 t345, .int .i64 0, .int .i64 0, .int .i64 0, .slice none 0 0, .slice none 0 0]) ?_ 4 _ rfl; (with_reducible repeat (first | refine blk_drewN ?_ _ | refine blk_drew ?_ | refine blk_alloc ?_ _)); refine blk_put (cs := #[.int .i64 t342, .int .i64 t343, .int .i64 t344, .int .i64 0, .int .i64 0, .int .i64 0, .int .i64 0, .slice none 0 0, .slice none 0 0]) ?_ 3 _ rfl; (with_reducible repeat (first | refine blk_drewN ?_ _ | refine blk_drew ?_ | refine blk_alloc ?_ _)); refine blk_put (cs := #[.int .i64 t342, .int .i64 t343, .int .i64 0, .int .i64 0, .int .i64 0, .int .i64 0, .int .i64 0, .slice none 0 0, .slice none 0 0]) ?_ 2 _ rfl; (with_reducible repeat (first | refine blk_drewN ?_ _ | refine blk_drew ?_ | refine blk_alloc ?_ _)); refine blk_put (cs := #[.int .i64 t342, .int .i64 0, .int .i64 0, .int .i64 0, .int .i64 0, .int .i64 0, .int .i64 0, .slice none 0 0, .slice none 0 0]) ?_ 1 _ rfl; (with_reducible repeat (first | refine blk_drewN ?_ _ | refine blk_drew ?_ | refine blk_alloc ?_ _)); refine blk_put (cs := #[.int .i64 0, .int .i64 0, .int .i64 0, .int .i64 0, .int .i64 0, .int .i64 0, .int .i64 0, .slice none 0 0, .slice none 0 0]) ?_ 0 _ rfl; (with_reducible repeat (first | refine blk_drewN ?_ _ | refine blk_drew ?_ | refine blk_alloc ?_ _)); exact BK355.out) hb); replace HB := AM_ (below_step (BT HB.out) hb); (try clear hb); (try clear hb2); (try clear hk); (try clear hi)))
  go_ret
  exact QT (BT HB.out)
 rw [if_pos c25] at H
 have c25b0 : (t356 == t337) = true := beq_iff_eq.mpr c25
 have c25b1 : (t356 != t337) = false := bne_eq_false_iff_eq.mpr c25
 clear c25
 replace H := Option.bind_eq_some_iff.mp H
 obtain ⟨t357, A260, H⟩ := H
 replace H : ((laws_eqStore.f k t338 t357).bind fun t360 => (if t360 = true then ((laws_toTransaction.f k a1_0 a1_1 a1_2 a1_3 a1_4 a1_5 a1_6 l1_7 l1_8).bind fun bt361 => ((laws_eqTransaction.f k t342 t343 t344 t345 t346 t347 t348 t349 t352 bt361.1 bt361.2.1 bt361.2.2.1 bt361.2.2.2.1 bt361.2.2.2.2.1 bt361.2.2.2.2.2.1 bt361.2.2.2.2.2.2.1 bt361.2.2.2.2.2.2.2.1 bt361.2.2.2.2.2.2.2.2).bind fun t374 => (if t374 = true then (some true) else (some false)))) else (some false))) = some r := H
 have A26 := AM_ A260
 clear A260
 replace H := Option.bind_eq_some_iff.mp H
 obtain ⟨t360, A270, H⟩ := H
 replace H : (if t360 = true then ((laws_toTransaction.f k a1_0 a1_1 a1_2 a1_3 a1_4 a1_5 a1_6 l1_7 l1_8).bind fun bt361 => ((laws_eqTransaction.f k t342 t343 t344 t345 t346 t347 t348 t349 t352 bt361.1 bt361.2.1 bt361.2.2.1 bt361.2.2.2.1 bt361.2.2.2.2.1 bt361.2.2.2.2.2.1 bt361.2.2.2.2.2.2.1 bt361.2.2.2.2.2.2.2.1 bt361.2.2.2.2.2.2.2.2).bind fun t374 => (if t374 = true then (some true) else (some false)))) else (some false)) = some r := H
 have A27 := AM_ A270
 clear A270
 by_cases c28 : t360 = true
 rotate_left
 ·replace c28 := Bool.eq_false_iff.mpr c28
  subst c28
  have H1 : (some false) = some r := by rw [if_neg (show ¬ (false = true) by decide)] at H; exact H
  clear H
  have H := H1
  clear H1
  obtain rfl := Option.some.inj H
  go_enter Try.func5, Try.ntmps5
  try go_wp2_with (first | ((with_reducible refine gate_dst (N := 2) rfl ?_); refine box_event ?hg (N := 2) ?hd (cs := #[.slice A0_0 l0_0.length c0_0]) (t := 39) ?hr ?_; (case hd => rfl); (case hg => rfl); (case hr => first | (go_simp; done) | (go_simp; rfl)); intro gb317 hg w114 hbox hb; have BK317 := AM_ (hbox); have GW317 := AM_ ((GS HB.out hg)); have GE317 := AM_ ((GS HB.out hg)); replace HB := AM_ (below_step (BT HB.out) hb); clear hb hbox hg) | ((with_reducible refine gate_dst (N := 3) rfl ?_); refine box_event ?hg (N := 3) ?hd (cs := #[.int .i64 a1_0, .int .i64 a1_1, .int .i64 a1_2, .int .i64 a1_3, .int .i64 a1_4, .int .i64 a1_5, .int .i64 a1_6, .slice A1_7 l1_7.length c1_7, .slice A1_8 l1_8.length c1_8]) (t := 60) ?hr ?_; (case hd => rfl); (case hg => rfl); (case hr => first | (go_simp; done) | (go_simp; rfl)); intro gb318 hg w115 hbox hb; have BK318 := AM_ (hbox); have GW318 := AM_ ((GS HB.out hg)); have GE318 := AM_ ((GS HB.out hg)); replace HB := AM_ (below_step (BT HB.out) hb); have NB317_318 := AM_ ((NL BK317.out hg)); have NB318_317 := AM_ ((NG BK317.out hg)); replace BK317 := AM_ (BB BK317.out hb); clear hb hbox hg; have hnb116 := NB317_318.out; have hnc116 := NB318_317.out; obtain ⟨hcz117_0, hfz117_0⟩ := bk1 BK317.out) | ((with_reducible refine gate_callee (f := 32) rfl ?_); refine goesL_ (some 12) rfl rfl Try.func32 (by kernel_rfl) rfl #[.agg #[.slice A0_0 l0_0.length c0_0], .int .i64 1048576] rfl (by (try simp only [List.map_toArray, List.map_cons, List.map_nil]); first | done | rfl | (simp only [List.length_drop, List.length_take]; rfl)) ?_; (with_reducible refine (laws_szStore.calls k _ _ l0_0 1048576 t319 _ ?side1 ?side2 A3.out).mono ?_); (case side1 => exact CB HR0_0.out HB.out); (case side2 => exact HC0_0.out); rintro e w118 ⟨rfl, hb⟩; refine ⟨_, rfl, ?_⟩; replace BK317 := AM_ (BB BK317.out hb); replace BK318 := AM_ (BB BK318.out hb); replace HB := AM_ (below_step (BT HB.out) hb); (try clear hb); (try clear hb2); (try clear hk); (try clear hi); obtain ⟨hcz119_0, hcz119_1, hcz119_2, hcz119_3, hcz119_4, hcz119_5, hcz119_6, hcz119_7, hcz119_8, hfz119_0, hfz119_1, hfz119_2, hfz119_3, hfz119_4, hfz119_5, hfz119_6, hfz119_7, hfz119_8⟩ := bk9 BK318.out) | ((with_reducible refine gate_callee (f := 33) rfl ?_); refine goesL_ (some 17) rfl rfl Try.func33 (by kernel_rfl) rfl #[.agg #[.int .i64 a1_0, .int .i64 a1_1, .int .i64 a1_2, .int .i64 a1_3, .int .i64 a1_4, .int .i64 a1_5, .int .i64 a1_6, .slice A1_7 l1_7.length c1_7, .slice A1_8 l1_8.length c1_8], .int .i64 t319] rfl (by (try simp only [List.map_toArray, List.map_cons, List.map_nil]); first | done | rfl | (simp only [List.length_drop, List.length_take]; rfl)) ?_; (with_reducible refine (laws_szTransaction.calls a1_0 a1_1 a1_2 a1_3 a1_4 a1_5 a1_6 _ _ l1_7 _ _ l1_8 t319 t320 _ ?side1 ?side2 ?side3 ?side4 A10.out).mono ?_); (case side1 => exact CB HR1_7.out HB.out); (case side2 => exact HC1_7.out); (case side3 => exact CB HR1_8.out HB.out); (case side4 => exact HC1_8.out); rintro e w120 ⟨rfl, hb⟩; refine ⟨_, rfl, ?_⟩; replace BK317 := AM_ (BB BK317.out hb); replace BK318 := AM_ (BB BK318.out hb); replace HB := AM_ (below_step (BT HB.out) hb); (try clear hb); (try clear hb2); (try clear hk); (try clear hi)))
  replace BK317 := AM_ (blk_drew BK317.out)
  replace BK318 := AM_ (blk_drew BK318.out)
  replace HB := AM_ (below_drew1 HB.out)
  refine start_ (n := 6) (S := fun w' => w'.cell? ⟨gb317, 0, none⟩ = some (.slice A0_0 l0_0.length c0_0) ∧ w'.cell? ⟨gb318, 0, none⟩ = some (.int .i64 a1_0) ∧ w'.cell? ⟨gb318, 1, none⟩ = some (.int .i64 a1_1) ∧ w'.cell? ⟨gb318, 2, none⟩ = some (.int .i64 a1_2) ∧ w'.cell? ⟨gb318, 3, none⟩ = some (.int .i64 a1_3) ∧ w'.cell? ⟨gb318, 4, none⟩ = some (.int .i64 a1_4) ∧ w'.cell? ⟨gb318, 5, none⟩ = some (.int .i64 a1_5) ∧ w'.cell? ⟨gb318, 6, none⟩ = some (.int .i64 a1_6) ∧ w'.cell? ⟨gb318, 7, none⟩ = some (.slice A1_7 l1_7.length c1_7) ∧ w'.cell? ⟨gb318, 8, none⟩ = some (.slice A1_8 l1_8.length c1_8)) (ds := []) (bs 0 6) (by kernel_rfl) rfl rfl ⟨bc BK317.out 0, bc BK318.out 0, bc BK318.out 1, bc BK318.out 2, bc BK318.out 3, bc BK318.out 4, bc BK318.out 5, bc BK318.out 6, bc BK318.out 7, bc BK318.out 8⟩ (fun hHeld => ?_)
  generalize w120.drew = w121 at BK317 BK318 HB hHeld ⊢
  refine take_ (i := 0) (N := some 20) (v := ?_) (a' := ?_) (bs 1 6) rfl rfl (by kernel_rfl) (fun _ _ _ h => h) (Or.inl ⟨by rfl, ?_⟩) hHeld ?_ ?_
  rotate_left
  ·rintro w' ⟨s0, s1, s2, s3, s4, s5, s6, s7, s8, s9⟩
   go_simp
   with_reducible rfl
  rotate_left
  ·simp only [pA, pS, pZ, pK, i64_w, i32_w]
   rfl
  refine take_ (i := 2) (N := some 22) (v := ?_) (a' := ?_) (bs 5 6) rfl rfl (by kernel_rfl) (fun _ _ _ h => h) (Or.inl ⟨by rfl, ?_⟩) hHeld ?_ ?_
  rotate_left
  ·rintro w' ⟨s0, s1, s2, s3, s4, s5, s6, s7, s8, s9⟩
   go_simp
   with_reducible rfl
  rotate_left
  ·simp only [pA, pS, pZ, pK, i64_w, i32_w]
   rfl
  refine one_ (i := 1) (N := some 21) (bs 7 6) rfl rfl (by kernel_rfl) (by decide) (fun K hK => ?_)
  refine goes_ Try.func35 (by kernel_rfl) rfl #[.agg #[.slice A0_0 l0_0.length c0_0]] (by rfl) rfl rfl (by (try simp only [List.map_toArray, List.map_cons, List.map_nil]); first | done | rfl | (simp only [List.length_drop, List.length_take]; rfl)) ?_
  with_reducible refine (laws_toStore.calls k _ _ l0_0 t321 _ ?side1 ?side2 A19.out).mono ?_
  (case side1 => exact CB HR0_0.out HB.out)
  (case side2 => exact HC0_0.out)
  rintro e w122 ⟨v322, rfl, ho0, hb⟩
  refine ⟨_, rfl, ?_⟩
  have HO323 := AM_ (Kd.S_lower ho0 (below_size (BT HB.out)))
  replace BK317 := AM_ (BB BK317.out hb)
  replace BK318 := AM_ (BB BK318.out hb)
  replace HB := AM_ (below_step (BT HB.out) hb)
  (try clear hb)
  (try clear hb2)
  (try clear hk)
  (try clear hi)
  (try clear ho0)
  refine hK.out _ _ ⟨bc BK317.out 0, bc BK318.out 0, bc BK318.out 1, bc BK318.out 2, bc BK318.out 3, bc BK318.out 4, bc BK318.out 5, bc BK318.out 6, bc BK318.out 7, bc BK318.out 8⟩ (fun hHeld => ?_)
  clear hK K
  refine norm_ (a' := ?_) ?_ ?_
  rotate_left
  ·show Act.put _ (some 21) _ = _
   simp only [pA, pS, pZ, pK, i64_w, i32_w]
   rfl
  refine one_ (i := 3) (N := some 23) (bs 15 6) rfl rfl (by kernel_rfl) (by decide) (fun K hK => ?_)
  refine goes_ Try.func36 (by kernel_rfl) rfl #[.agg #[.int .i64 a1_0, .int .i64 a1_1, .int .i64 a1_2, .int .i64 a1_3, .int .i64 a1_4, .int .i64 a1_5, .int .i64 a1_6, .slice A1_7 l1_7.length c1_7, .slice A1_8 l1_8.length c1_8]] (by rfl) rfl rfl (by (try simp only [List.map_toArray, List.map_cons, List.map_nil]); first | done | rfl | (simp only [List.length_drop, List.length_take]; rfl)) ?_
  with_reducible refine (laws_toTransaction.calls k a1_0 a1_1 a1_2 a1_3 a1_4 a1_5 a1_6 _ _ l1_7 _ _ l1_8 t324 t325 t326 t327 t328 t329 t330 t331 t334 _ ?side1 ?side2 ?side3 ?side4 A20.out).mono ?_
  (case side1 => exact CB HR1_7.out HB.out)
  (case side2 => exact HC1_7.out)
  (case side3 => exact CB HR1_8.out HB.out)
  (case side4 => exact HC1_8.out)
  rintro e w123 ⟨v332, v335, rfl, ho0, ho1, hb⟩
  refine ⟨_, rfl, ?_⟩
  replace HO323 := AM_ (Kd.S_below (ST HO323.out) hb)
  have HO333 := AM_ (Kd.R_lower ho0 (below_size (BT HB.out)))
  have HO336 := AM_ (Kd.R_lower ho1 (below_size (BT HB.out)))
  replace BK317 := AM_ (BB BK317.out hb)
  replace BK318 := AM_ (BB BK318.out hb)
  replace HB := AM_ (below_step (BT HB.out) hb)
  (try clear hb)
  (try clear hb2)
  (try clear hk)
  (try clear hi)
  (try clear ho0)
  (try clear ho1)
  obtain ⟨Ao124, co124, eo124⟩ := Kd.S_slice HO323.out
  (first | subst eo124 | (injection eo124 with f1_ f2_ f3_; have f4_ := f1_.symm; have f5_ := f3_.symm; clear f1_ f2_ f3_; subst f4_; subst f5_))
  obtain ⟨Ao125, co125, eo125⟩ := Kd.R_slice HO333.out
  (first | subst eo125 | (injection eo125 with f1_ f2_ f3_; have f4_ := f1_.symm; have f5_ := f3_.symm; clear f1_ f2_ f3_; subst f4_; subst f5_))
  obtain ⟨Ao126, co126, eo126⟩ := Kd.R_slice HO336.out
  (first | subst eo126 | (injection eo126 with f1_ f2_ f3_; have f4_ := f1_.symm; have f5_ := f3_.symm; clear f1_ f2_ f3_; subst f4_; subst f5_))
  refine hK.out _ _ ⟨bc BK317.out 0, bc BK318.out 0, bc BK318.out 1, bc BK318.out 2, bc BK318.out 3, bc BK318.out 4, bc BK318.out 5, bc BK318.out 6, bc BK318.out 7, bc BK318.out 8⟩ (fun hHeld => ?_)
  clear hK K
  refine norm_ (a' := ?_) ?_ ?_
  rotate_left
  ·show Act.put _ (some 23) _ = _
   simp only [pA, pS, pZ, pK, i64_w, i32_w]
   rfl
  refine one_ (i := 4) (N := some 24) (bs 31 6) rfl rfl (by kernel_rfl) (by decide) (fun K hK => ?_)
  refine goes_ Try.func34 (by kernel_rfl) rfl #[.agg #[.slice Ao124 t321.length co124], .agg #[.int .i64 t324, .int .i64 t325, .int .i64 t326, .int .i64 t327, .int .i64 t328, .int .i64 t329, .int .i64 t330, .slice Ao125 t331.length co125, .slice Ao126 t334.length co126]] (by rfl) rfl rfl (by (try simp only [List.map_toArray, List.map_cons, List.map_nil]); first | done | rfl | (simp only [List.length_drop, List.length_take]; rfl)) ?_
  with_reducible refine (spec_CommitCode.calls k _ _ t321 t324 t325 t326 t327 t328 t329 t330 _ _ t331 _ _ t334 t337 _ ?side1 ?side2 ?side3 ?side4 ?side5 ?side6 A21.out).mono ?_
  (case side1 => exact Kd.C_below (Kd.S_reads' HO323.out).2.2 (BL (Below.refl _ _) rfl rfl rfl rfl))
  (case side2 => exact (Kd.S_reads' HO323.out).2.1)
  (case side3 => exact Kd.C_below (Kd.R_reads' HO333.out).2.2 (BL (Below.refl _ _) rfl rfl rfl rfl))
  (case side4 => exact (Kd.R_reads' HO333.out).2.1)
  (case side5 => exact Kd.C_below (Kd.R_reads' HO336.out).2.2 (BL (Below.refl _ _) rfl rfl rfl rfl))
  (case side6 => exact (Kd.R_reads' HO336.out).2.1)
  rintro e w127 ⟨rfl, hb⟩
  refine ⟨_, rfl, ?_⟩
  replace HO323 := AM_ (Kd.S_below (ST HO323.out) hb)
  replace HO333 := AM_ (Kd.R_below (RT HO333.out) hb)
  replace HO336 := AM_ (Kd.R_below (RT HO336.out) hb)
  replace BK317 := AM_ (BB BK317.out hb)
  replace BK318 := AM_ (BB BK318.out hb)
  replace HB := AM_ (below_step (BT HB.out) hb)
  (try clear hb)
  (try clear hb2)
  (try clear hk)
  (try clear hi)
  refine hK.out _ _ ⟨bc BK317.out 0, bc BK318.out 0, bc BK318.out 1, bc BK318.out 2, bc BK318.out 3, bc BK318.out 4, bc BK318.out 5, bc BK318.out 6, bc BK318.out 7, bc BK318.out 8⟩ (fun hHeld => ?_)
  clear hK K
  refine norm_ (a' := ?_) ?_ ?_
  rotate_left
  ·show Act.put _ (some 24) _ = _
   simp only [pA, pS, pZ, pK, i64_w, i32_w]
   rfl
  refine pure_ (i := 5) (N := some 6) (v := ?_) (a' := ?_) (bs 63 6) rfl rfl (by kernel_rfl) (fun _ _ _ h => h) (Or.inl ⟨by rfl, ?_⟩) ?_ ?_
  rotate_left
  ·intro w'
   go_simp
   with_reducible rfl
  rotate_left
  ·simp only [pA, pS, pZ, pK, i64_w, i32_w]
   rfl
  refine done_ (by kernel_rfl) ?_
  obtain ⟨hcz128_0, hfz128_0⟩ := bk1 BK317.out
  try go_wp2_with (first | ((with_reducible refine gate_callee (f := 35) rfl ?_); refine goesL_ (some 26) rfl rfl Try.func35 (by kernel_rfl) rfl #[.agg #[.slice A0_0 l0_0.length c0_0]] rfl (by (try simp only [List.map_toArray, List.map_cons, List.map_nil]); first | done | rfl | (simp only [List.length_drop, List.length_take]; rfl)) ?_; (with_reducible refine (laws_toStore.calls k _ _ l0_0 t338 _ ?side1 ?side2 A22.out).mono ?_); (case side1 => exact CB HR0_0.out HB.out); (case side2 => exact HC0_0.out); rintro e w129 ⟨v339, rfl, ho0, hb⟩; refine ⟨_, rfl, ?_⟩; replace HO333 := AM_ (Kd.R_below (RT HO333.out) hb); replace HO336 := AM_ (Kd.R_below (RT HO336.out) hb); have HO340 := AM_ (Kd.S_lower (Kd.S_new' ho0 (Kd.S_lt (ST HO323.out))) (below_size (BT HB.out))); replace HO323 := AM_ (Kd.S_elder' (ST HO323.out) (Kd.S_base ho0) hb); replace BK317 := AM_ (BB BK317.out hb); replace BK318 := AM_ (BB BK318.out hb); replace HB := AM_ (below_step (BT HB.out) hb); (try clear hb); (try clear hb2); (try clear hk); (try clear hi); (try clear ho0)) | ((with_reducible refine gate_dst (N := 7) rfl ?_); refine box_event ?hg (N := 7) ?hd (cs := #[.slice none 0 0]) (t := 49) ?hr ?_; (case hd => rfl); (case hg => rfl); (case hr => first | (go_simp; done) | (go_simp; rfl)); intro gb341 hg w130 hbox hb; replace HO323 := AM_ (Kd.S_below (ST HO323.out) hb); replace HO333 := AM_ (Kd.R_below (RT HO333.out) hb); replace HO336 := AM_ (Kd.R_below (RT HO336.out) hb); replace HO340 := AM_ (Kd.S_below (ST HO340.out) hb); have BK341 := AM_ (hbox); have GW341 := AM_ ((GS HB.out hg)); have GE341 := AM_ ((GS HB.out hg)); replace HB := AM_ (below_step (BT HB.out) hb); have NB317_341 := AM_ ((NL BK317.out hg)); have NB341_317 := AM_ ((NG BK317.out hg)); replace BK317 := AM_ (BB BK317.out hb); have NB318_341 := AM_ ((NL BK318.out hg)); have NB341_318 := AM_ ((NG BK318.out hg)); replace BK318 := AM_ (BB BK318.out hb); clear hb hbox hg; obtain ⟨Ao131, co131, eo131⟩ := Kd.S_slice HO340.out; subst eo131; have hnb132 := NB341_317.out; have hnc132 := NB317_341.out; have hnb133 := NB341_318.out; have hnc133 := NB318_341.out; obtain ⟨hcz134_0, hfz134_0⟩ := bk1 BK341.out; obtain ⟨hcz135_0, hcz135_1, hcz135_2, hcz135_3, hcz135_4, hcz135_5, hcz135_6, hcz135_7, hcz135_8, hfz135_0, hfz135_1, hfz135_2, hfz135_3, hfz135_4, hfz135_5, hfz135_6, hfz135_7, hfz135_8⟩ := bk9 BK318.out) | ((with_reducible refine gate_callee (f := 36) rfl ?_); refine goesL_ (some 28) rfl rfl Try.func36 (by kernel_rfl) rfl #[.agg #[.int .i64 a1_0, .int .i64 a1_1, .int .i64 a1_2, .int .i64 a1_3, .int .i64 a1_4, .int .i64 a1_5, .int .i64 a1_6, .slice A1_7 l1_7.length c1_7, .slice A1_8 l1_8.length c1_8]] rfl (by (try simp only [List.map_toArray, List.map_cons, List.map_nil]); first | done | rfl | (simp only [List.length_drop, List.length_take]; rfl)) ?_; (with_reducible refine (laws_toTransaction.calls k a1_0 a1_1 a1_2 a1_3 a1_4 a1_5 a1_6 _ _ l1_7 _ _ l1_8 t342 t343 t344 t345 t346 t347 t348 t349 t352 _ ?side1 ?side2 ?side3 ?side4 A23.out).mono ?_); (case side1 => exact Kd.C_below HR1_7.out (BT HB.out)); (case side2 => exact HC1_7.out); (case side3 => exact Kd.C_below HR1_8.out (BT HB.out)); (case side4 => exact HC1_8.out); rintro e w136 ⟨v350, v353, rfl, ho0, ho1, hb⟩; refine ⟨_, rfl, ?_⟩; replace HO323 := AM_ (Kd.S_below (SF HO323.out BK341.out) hb); replace HO340 := AM_ (Kd.S_below (SF HO340.out BK341.out) hb); have HO351 := AM_ (Kd.R_lower (Kd.R_new' ho0 (Kd.R_lt (RF HO333.out BK341.out))) (below_size (BT HB.out))); replace HO333 := AM_ (Kd.R_elder' (RF HO333.out BK341.out) (Kd.R_base ho0) hb); have HO354 := AM_ (Kd.R_lower (Kd.R_new' ho1 (Kd.R_lt (RF HO336.out BK341.out))) (below_size (BT HB.out))); replace HO336 := AM_ (Kd.R_elder' (RF HO336.out BK341.out) (Kd.R_base ho1) hb); replace BK317 := AM_ (blk_below (g := gb317) (o := .cells #[.slice A0_0 l0_0.length c0_0] 39 (0, 0)) (by (with_reducible repeat (first | refine blk_drewN ?_ _ | refine blk_drew ?_ | refine blk_alloc ?_ _)); refine blk_far ?_ NB317_341.out _; (with_reducible repeat (first | refine blk_drewN ?_ _ | refine blk_drew ?_ | refine blk_alloc ?_ _)); exact BK317.out) hb); replace BK318 := AM_ (blk_below (g := gb318) (o := .cells #[.int .i64 a1_0, .int .i64 a1_1, .int .i64 a1_2, .int .i64 a1_3, .int .i64 a1_4, .int .i64 a1_5, .int .i64 a1_6, .slice A1_7 l1_7.length c1_7, .slice A1_8 l1_8.length c1_8] 60 (0, 0)) (by (with_reducible repeat (first | refine blk_drewN ?_ _ | refine blk_drew ?_ | refine blk_alloc ?_ _)); refine blk_far ?_ NB318_341.out _; (with_reducible repeat (first | refine blk_drewN ?_ _ | refine blk_drew ?_ | refine blk_alloc ?_ _)); exact BK318.out) hb); replace BK341 := AM_ (blk_below (g := gb341) (o := .cells #[.slice Ao131 t338.length co131] 49 (0, 0)) (by (with_reducible repeat (first | refine blk_drewN ?_ _ | refine blk_drew ?_ | refine blk_alloc ?_ _)); refine blk_put (cs := #[.slice none 0 0]) ?_ 0 _ rfl; (with_reducible repeat (first | refine blk_drewN ?_ _ | refine blk_drew ?_ | refine blk_alloc ?_ _)); exact BK341.out) hb); replace HB := AM_ (below_step (BT HB.out) hb); (try clear hb); (try clear hb2); (try clear hk); (try clear hi); (try clear ho0); (try clear ho1)) | ((with_reducible refine gate_dst (N := 8) rfl ?_); refine box_event ?hg (N := 8) ?hd (cs := #[.int .i64 0, .int .i64 0, .int .i64 0, .int .i64 0, .int .i64 0, .int .i64 0, .int .i64 0, .slice none 0 0, .slice none 0 0]) (t := 68) ?hr ?_; (case hd => rfl); (case hg => rfl); (case hr => first | (go_simp; done) | (go_simp; rfl)); intro gb355 hg w137 hbox hb; replace HO323 := AM_ (Kd.S_below (ST HO323.out) hb); replace HO333 := AM_ (Kd.R_below (RT HO333.out) hb); replace HO336 := AM_ (Kd.R_below (RT HO336.out) hb); replace HO340 := AM_ (Kd.S_below (ST HO340.out) hb); replace HO351 := AM_ (Kd.R_below (RT HO351.out) hb); replace HO354 := AM_ (Kd.R_below (RT HO354.out) hb); have BK355 := AM_ (hbox); have GW355 := AM_ ((GS HB.out hg)); have GE355 := AM_ ((GS HB.out hg)); replace HB := AM_ (below_step (BT HB.out) hb); have NB317_355 := AM_ ((NL BK317.out hg)); have NB355_317 := AM_ ((NG BK317.out hg)); replace BK317 := AM_ (BB BK317.out hb); have NB318_355 := AM_ ((NL BK318.out hg)); have NB355_318 := AM_ ((NG BK318.out hg)); replace BK318 := AM_ (BB BK318.out hb); have NB341_355 := AM_ ((NL BK341.out hg)); have NB355_341 := AM_ ((NG BK341.out hg)); replace BK341 := AM_ (BB BK341.out hb); clear hb hbox hg; have hnb138 := NB355_317.out; have hnc138 := NB317_355.out; have hnb139 := NB355_318.out; have hnc139 := NB318_355.out; have hnb140 := NB355_341.out; have hnc140 := NB341_355.out; obtain ⟨hcz141_0, hcz141_1, hcz141_2, hcz141_3, hcz141_4, hcz141_5, hcz141_6, hcz141_7, hcz141_8, hfz141_0, hfz141_1, hfz141_2, hfz141_3, hfz141_4, hfz141_5, hfz141_6, hfz141_7, hfz141_8⟩ := bk9 BK355.out; obtain ⟨Ao142, co142, eo142⟩ := Kd.R_slice HO351.out; subst eo142; obtain ⟨Ao143, co143, eo143⟩ := Kd.R_slice HO354.out; subst eo143; obtain ⟨hcz144_0, hfz144_0⟩ := bk1 BK341.out) | ((with_reducible refine gate_callee (f := 37) rfl ?_); refine goesL_ (some 31) rfl rfl Try.func37 (by kernel_rfl) rfl #[.agg #[.slice Ao131 t338.length co131], .agg #[.int .i64 t342, .int .i64 t343, .int .i64 t344, .int .i64 t345, .int .i64 t346, .int .i64 t347, .int .i64 t348, .slice Ao142 t349.length co142, .slice Ao143 t352.length co143]] rfl (by (try simp only [List.map_toArray, List.map_cons, List.map_nil]); first | done | rfl | (simp only [List.length_drop, List.length_take]; rfl)) ?_; (with_reducible refine (impl_CommitCode.calls k _ _ t338 t342 t343 t344 t345 t346 t347 t348 _ _ t349 _ _ t352 t356 _ ?side1 ?side2 ?side3 ?side4 ?side5 ?side6 A24.out).mono ?_); (case side1 => exact CG HO340.out BK355.out); (case side2 => exact (Kd.S_reads' HO340.out).2.1); (case side3 => exact CF HO351.out BK355.out); (case side4 => exact (Kd.R_reads' HO351.out).2.1); (case side5 => exact CF HO354.out BK355.out); (case side6 => exact (Kd.R_reads' HO354.out).2.1); rintro e w145 ⟨rfl, hb⟩; refine ⟨_, rfl, ?_⟩; replace HO323 := AM_ (Kd.S_below (SF HO323.out BK355.out) hb); replace HO333 := AM_ (Kd.R_below (RF HO333.out BK355.out) hb); replace HO336 := AM_ (Kd.R_below (RF HO336.out BK355.out) hb); replace HO340 := AM_ (Kd.S_below (SF HO340.out BK355.out) hb); replace HO351 := AM_ (Kd.R_below (RF HO351.out BK355.out) hb); replace HO354 := AM_ (Kd.R_below (RF HO354.out BK355.out) hb); replace BK317 := AM_ (blk_below (g := gb317) (o := .cells #[.slice A0_0 l0_0.length c0_0] 39 (0, 0)) (by (with_reducible repeat (first | refine blk_drewN ?_ _ | refine blk_drew ?_ | refine blk_alloc ?_ _)); refine blk_far ?_ NB317_355.out _; (with_reducible repeat (first | refine blk_drewN ?_ _ | refine blk_drew ?_ | refine blk_alloc ?_ _)); refine blk_far ?_ NB317_355.out _; (with_reducible repeat (first | refine blk_drewN ?_ _ | refine blk_drew ?_ | refine blk_alloc ?_ _)); refine blk_far ?_ NB317_355.out _; (with_reducible repeat (first | refine blk_drewN ?_ _ | refine blk_drew ?_ | refine blk_alloc ?_ _)); refine blk_far ?_ NB317_355.out _; (with_reducible repeat (first | refine blk_drewN ?_ _ | refine blk_drew ?_ | refine blk_alloc ?_ _)); refine blk_far ?_ NB317_355.out _; (with_reducible repeat (first | refine blk_drewN ?_ _ | refine blk_drew ?_ | refine blk_alloc ?_ _)); refine blk_far ?_ NB317_355.out _; (with_reducible repeat (first | refine blk_drewN ?_ _ | refine blk_drew ?_ | refine blk_alloc ?_ _)); refine blk_far ?_ NB317_355.out _; (with_reducible repeat (first | refine blk_drewN ?_ _ | refine blk_drew ?_ | refine blk_alloc ?_ _)); refine blk_far ?_ NB317_355.out _; (with_reducible repeat (first | refine blk_drewN ?_ _ | refine blk_drew ?_ | refine blk_alloc ?_ _)); refine blk_far ?_ NB317_355.out _; (with_reducible repeat (first | refine blk_drewN ?_ _ | refine blk_drew ?_ | refine blk_alloc ?_ _)); exact BK317.out) hb); replace BK318 := AM_ (blk_below (g := gb318) (o := .cells #[.int .i64 a1_0, .int .i64 a1_1, .int .i64 a1_2, .int .i64 a1_3, .int .i64 a1_4, .int .i64 a1_5, .int .i64 a1_6, .slice A1_7 l1_7.length c1_7, .slice A1_8 l1_8.length c1_8] 60 (0, 0)) (by (with_reducible repeat (first | refine blk_drewN ?_ _ | refine blk_drew ?_ | refine blk_alloc ?_ _)); refine blk_far ?_ NB318_355.out _; (with_reducible repeat (first | refine blk_drewN ?_ _ | refine blk_drew ?_ | refine blk_alloc ?_ _)); refine blk_far ?_ NB318_355.out _; (with_reducible repeat (first | refine blk_drewN ?_ _ | refine blk_drew ?_ | refine blk_alloc ?_ _)); refine blk_far ?_ NB318_355.out _; (with_reducible repeat (first | refine blk_drewN ?_ _ | refine blk_drew ?_ | refine blk_alloc ?_ _)); refine blk_far ?_ NB318_355.out _; (with_reducible repeat (first | refine blk_drewN ?_ _ | refine blk_drew ?_ | refine blk_alloc ?_ _)); refine blk_far ?_ NB318_355.out _; (with_reducible repeat (first | refine blk_drewN ?_ _ | refine blk_drew ?_ | refine blk_alloc ?_ _)); refine blk_far ?_ NB318_355.out _; (with_reducible repeat (first | refine blk_drewN ?_ _ | refine blk_drew ?_ | refine blk_alloc ?_ _)); refine blk_far ?_ NB318_355.out _; (with_reducible repeat (first | refine blk_drewN ?_ _ | refine blk_drew ?_ | refine blk_alloc ?_ _)); refine blk_far ?_ NB318_355.out _; (with_reducible repeat (first | refine blk_drewN ?_ _ | refine blk_drew ?_ | refine blk_alloc ?_ _)); refine blk_far ?_ NB318_355.out _; (with_reducible repeat (first | refine blk_drewN ?_ _ | refine blk_drew ?_ | refine blk_alloc ?_ _)); exact BK318.out) hb); replace BK341 := AM_ (blk_below (g := gb341) (o := .cells #[.slice Ao131 t338.length co131] 49 (0, 0)) (by (with_reducible repeat (first | refine blk_drewN ?_ _ | refine blk_drew ?_ | refine blk_alloc ?_ _)); refine blk_far ?_ NB341_355.out _; (with_reducible repeat (first | refine blk_drewN ?_ _ | refine blk_drew ?_ | refine blk_alloc ?_ _)); refine blk_far ?_ NB341_355.out _; (with_reducible repeat (first | refine blk_drewN ?_ _ | refine blk_drew ?_ | refine blk_alloc ?_ _)); refine blk_far ?_ NB341_355.out _; (with_reducible repeat (first | refine blk_drewN ?_ _ | refine blk_drew ?_ | refine blk_alloc ?_ _)); refine blk_far ?_ NB341_355.out _; (with_reducible repeat (first | refine blk_drewN ?_ _ | refine blk_drew ?_ | refine blk_alloc ?_ _)); refine blk_far ?_ NB341_355.out _; (with_reducible repeat (first | refine blk_drewN ?_ _ | refine blk_drew ?_ | refine blk_alloc ?_ _)); refine blk_far ?_ NB341_355.out _; (with_reducible repeat (first | refine blk_drewN ?_ _ | refine blk_drew ?_ | refine blk_alloc ?_ _)); refine blk_far ?_ NB341_355.out _; (with_reducible repeat (first | refine blk_drewN ?_ _ | refine blk_drew ?_ | refine blk_alloc ?_ _)); refine blk_far ?_ NB341_355.out _; (with_reducible repeat (first | refine blk_drewN ?_ _ | refine blk_drew ?_ | refine blk_alloc ?_ _)); refine blk_far ?_ NB341_355.out _; (with_reducible repeat (first | refine blk_drewN ?_ _ | refine blk_drew ?_ | refine blk_alloc ?_ _)); exact BK341.out) hb); replace BK355 := AM_ (blk_below (g := gb355) (o := .cells #[.int .i64 t342, .int .i64 t343, .int .i64 t344, .int .i64 t345, .int .i64 t346, .int .i64 t347, .int .i64 t348, .slice Ao142 t349.length co142, .slice Ao143 t352.length co143] 68 (0, 0)) (by (with_reducible repeat (first | refine blk_drewN ?_ _ | refine blk_drew ?_ | refine blk_alloc ?_ _)); refine blk_put (cs := #[.int .i64 t342, .int .i64 t343, .int .i64 t344, .int .i64 t345, .int .i64 t346, .int .i64 t347, .int .i64 t348, .slice Ao142 t349.length co142, .slice none 0 0]) ?_ 8 _ rfl; (with_reducible repeat (first | refine blk_drewN ?_ _ | refine blk_drew ?_ | refine blk_alloc ?_ _)); refine blk_put (cs := #[.int .i64 t342, .int .i64 t343, .int .i64 t344, .int .i64 t345, .int .i64 t346, .int .i64 t347, .int .i64 t348, .slice none 0 0, .slice none 0 0]) ?_ 7 _ rfl; (with_reducible repeat (first | refine blk_drewN ?_ _ | refine blk_drew ?_ | refine blk_alloc ?_ _)); refine blk_put (cs := #[.int .i64 t342, .int .i64 t343, .int .i64 t344, .int .i64 t345, .int .i64 t346, .int .i64 t347, .int .i64 0, .slice none 0 0, .slice none 0 0]) ?_ 6 _ rfl; (with_reducible repeat (first | refine blk_drewN ?_ _ | refine blk_drew ?_ | refine blk_alloc ?_ _)); refine blk_put (cs := #[.int .i64 t342, .int .i64 t343, .int .i64 t344, .int .i64 t345, .int .i64 t346, .int .i64 0, .int .i64 0, .slice none 0 0, .slice none 0 0]) ?_ 5 _ rfl; (with_reducible repeat (first | refine blk_drewN ?_ _ | refine blk_drew ?_ | refine blk_alloc ?_ _)); refine blk_put (cs := #[.int .i64 t342, .int .i64 t343, .int .i64 t344, .int .i64 t345, .int .i64 0, .int .i64 0, .int .i64 0, .slice none 0 0, .slice none 0 0]) ?_ 4 _ rfl; (with_reducible repeat (first | refine blk_drewN ?_ _ | refine blk_drew ?_ | refine blk_alloc ?_ _)); refine blk_put (cs := #[.int .i64 t342, .int .i64 t343, .int .i64 t344, .int .i64 0, .int .i64 0, .int .i64 0, .int .i64 0, .slice none 0 0, .slice none 0 0]) ?_ 3 _ rfl; (with_reducible repeat (first | refine blk_drewN ?_ _ | refine blk_drew ?_ | refine blk_alloc ?_ _)); refine blk_put (cs := #[.int .i64 t342, .int .i64 t343, .int .i64 0, .int .i64 0, .int .i64 0, .int .i64 0, .int .i64 0, .slice none 0 0, .slice none 0 0]) ?_ 2 _ rfl; (with_reducible repeat (first | refine blk_drewN ?_ _ | refine blk_drew ?_ | refine blk_alloc ?_ _)); refine blk_put (cs := #[.int .i64 t342, .int .i64 0, .int .i64 0, .int .i64 0, .int .i64 0, .int .i64 0, .int .i64 0, .slice none 0 0, .slice none 0 0]) ?_ 1 _ rfl; (with_reducible repeat (first | refine blk_drewN ?_ _ | refine blk_drew ?_ | refine blk_alloc ?_ _)); refine blk_put (cs := #[.int .i64 0, .int .i64 0, .int .i64 0, .int .i64 0, .int .i64 0, .int .i64 0, .int .i64 0, .slice none 0 0, .slice none 0 0]) ?_ 0 _ rfl; (with_reducible repeat (first | refine blk_drewN ?_ _ | refine blk_drew ?_ | refine blk_alloc ?_ _)); exact BK355.out) hb); replace HB := AM_ (below_step (BT HB.out) hb); (try clear hb); (try clear hb2); (try clear hk); (try clear hi)))
  replace HO323 := AM_ (Kd.S_drew HO323.out)
  replace HO333 := AM_ (Kd.R_drew HO333.out)
  replace HO336 := AM_ (Kd.R_drew HO336.out)
  replace HO340 := AM_ (Kd.S_drew HO340.out)
  replace HO351 := AM_ (Kd.R_drew HO351.out)
  replace HO354 := AM_ (Kd.R_drew HO354.out)
  replace BK317 := AM_ (blk_drew BK317.out)
  replace BK318 := AM_ (blk_drew BK318.out)
  replace BK341 := AM_ (blk_drew BK341.out)
  replace BK355 := AM_ (blk_drew BK355.out)
  replace HB := AM_ (below_drew1 HB.out)
  refine start_ (n := 5) (S := fun w' => w'.cell? ⟨gb341, 0, none⟩ = some (.slice Ao131 t338.length co131) ∧ w'.cell? ⟨gb317, 0, none⟩ = some (.slice A0_0 l0_0.length c0_0)) (ds := []) (bs 0 5) (by kernel_rfl) rfl rfl ⟨bc BK341.out 0, bc BK317.out 0⟩ (fun hHeld => ?_)
  generalize w145.drew = w146 at HO323 HO333 HO336 HO340 HO351 HO354 BK317 BK318 BK341 BK355 HB hHeld ⊢
  refine take_ (i := 0) (N := some 35) (v := ?_) (a' := ?_) (bs 1 5) rfl rfl (by kernel_rfl) (fun _ _ _ h => h) (Or.inl ⟨by rfl, ?_⟩) hHeld ?_ ?_
  rotate_left
  ·rintro w' ⟨s0, s1⟩
   go_simp
   with_reducible rfl
  rotate_left
  ·simp only [pA, pS, pZ, pK, i64_w, i32_w]
   rfl
  refine take_ (i := 1) (N := some 36) (v := ?_) (a' := ?_) (bs 3 5) rfl rfl (by kernel_rfl) (fun _ _ _ h => h) (Or.inl ⟨by rfl, ?_⟩) hHeld ?_ ?_
  rotate_left
  ·rintro w' ⟨s0, s1⟩
   go_simp
   with_reducible rfl
  rotate_left
  ·simp only [pA, pS, pZ, pK, i64_w, i32_w]
   rfl
  refine one_ (i := 2) (N := some 37) (bs 7 5) rfl rfl (by kernel_rfl) (by decide) (fun K hK => ?_)
  refine goes_ Try.func35 (by kernel_rfl) rfl #[.agg #[.slice A0_0 l0_0.length c0_0]] (by rfl) rfl rfl (by (try simp only [List.map_toArray, List.map_cons, List.map_nil]); first | done | rfl | (simp only [List.length_drop, List.length_take]; rfl)) ?_
  with_reducible refine (laws_toStore.calls k _ _ l0_0 t357 _ ?side1 ?side2 A26.out).mono ?_
  (case side1 => exact CB HR0_0.out HB.out)
  (case side2 => exact HC0_0.out)
  rintro e w147 ⟨v358, rfl, ho0, hb⟩
  refine ⟨_, rfl, ?_⟩
  replace HO333 := AM_ (Kd.R_below (RT HO333.out) hb)
  replace HO336 := AM_ (Kd.R_below (RT HO336.out) hb)
  replace HO351 := AM_ (Kd.R_below (RT HO351.out) hb)
  replace HO354 := AM_ (Kd.R_below (RT HO354.out) hb)
  have HO359 := AM_ (Kd.S_lower (Kd.S_new' (Kd.S_new' ho0 (Kd.S_lt (ST HO323.out))) (Kd.S_lt (ST HO340.out))) (below_size (BT HB.out)))
  replace HO323 := AM_ (Kd.S_elder' (ST HO323.out) (Kd.S_base ho0) hb)
  replace HO340 := AM_ (Kd.S_elder' (ST HO340.out) (Kd.S_base ho0) hb)
  replace BK317 := AM_ (BB BK317.out hb)
  replace BK318 := AM_ (BB BK318.out hb)
  replace BK341 := AM_ (BB BK341.out hb)
  replace BK355 := AM_ (BB BK355.out hb)
  replace HB := AM_ (below_step (BT HB.out) hb)
  (try clear hb)
  (try clear hb2)
  (try clear hk)
  (try clear hi)
  (try clear ho0)
  obtain ⟨Ao148, co148, eo148⟩ := Kd.S_slice HO359.out
  (first | subst eo148 | (injection eo148 with f1_ f2_ f3_; have f4_ := f1_.symm; have f5_ := f3_.symm; clear f1_ f2_ f3_; subst f4_; subst f5_))
  refine hK.out _ _ ⟨bc BK341.out 0, bc BK317.out 0⟩ (fun hHeld => ?_)
  clear hK K
  refine norm_ (a' := ?_) ?_ ?_
  rotate_left
  ·show Act.put _ (some 37) _ = _
   simp only [pA, pS, pZ, pK, i64_w, i32_w]
   rfl
  refine one_ (i := 3) (N := some 38) (bs 15 5) rfl rfl (by kernel_rfl) (by decide) (fun K hK => ?_)
  refine goes_ Try.func38 (by kernel_rfl) rfl #[.agg #[.slice Ao131 t338.length co131], .agg #[.slice Ao148 t357.length co148]] (by rfl) rfl rfl (by (try simp only [List.map_toArray, List.map_cons, List.map_nil]); first | done | rfl | (simp only [List.length_drop, List.length_take]; rfl)) ?_
  with_reducible refine (laws_eqStore.calls k _ _ t338 _ _ t357 false _ ?side1 ?side2 ?side3 ?side4 A27.out).mono ?_
  (case side1 => exact Kd.C_below (Kd.S_reads' HO340.out).2.2 (BL (Below.refl _ _) rfl rfl rfl rfl))
  (case side2 => exact (Kd.S_reads' HO340.out).2.1)
  (case side3 => exact Kd.C_below (Kd.S_reads' HO359.out).2.2 (BL (Below.refl _ _) rfl rfl rfl rfl))
  (case side4 => exact (Kd.S_reads' HO359.out).2.1)
  rintro e w149 ⟨rfl, hb⟩
  refine ⟨_, rfl, ?_⟩
  replace HO323 := AM_ (Kd.S_below (ST HO323.out) hb)
  replace HO333 := AM_ (Kd.R_below (RT HO333.out) hb)
  replace HO336 := AM_ (Kd.R_below (RT HO336.out) hb)
  replace HO340 := AM_ (Kd.S_below (ST HO340.out) hb)
  replace HO351 := AM_ (Kd.R_below (RT HO351.out) hb)
  replace HO354 := AM_ (Kd.R_below (RT HO354.out) hb)
  replace HO359 := AM_ (Kd.S_below (ST HO359.out) hb)
  replace BK317 := AM_ (BB BK317.out hb)
  replace BK318 := AM_ (BB BK318.out hb)
  replace BK341 := AM_ (BB BK341.out hb)
  replace BK355 := AM_ (BB BK355.out hb)
  replace HB := AM_ (below_step (BT HB.out) hb)
  (try clear hb)
  (try clear hb2)
  (try clear hk)
  (try clear hi)
  refine hK.out _ _ ⟨bc BK341.out 0, bc BK317.out 0⟩ (fun hHeld => ?_)
  clear hK K
  refine norm_ (a' := ?_) ?_ ?_
  rotate_left
  ·show Act.put _ (some 38) _ = _
   simp only [pA, pS, pZ, pK, i64_w, i32_w]
   rfl
  refine pure_ (i := 4) (N := some 39) (v := ?_) (a' := ?_) (bs 31 5) rfl rfl (by kernel_rfl) (fun _ _ _ h => h) (Or.inl ⟨by rfl, ?_⟩) ?_ ?_
  rotate_left
  ·intro w'
   go_simp
   with_reducible rfl
  rotate_left
  ·simp only [pA, pS, pZ, pK, i64_w, i32_w]
   rfl
  refine done_ (by kernel_rfl) ?_
  try go_wp2
  go_ret
  exact QT (BT HB.out)
 subst c28
 have H1 : ((laws_toTransaction.f k a1_0 a1_1 a1_2 a1_3 a1_4 a1_5 a1_6 l1_7 l1_8).bind fun bt361 => ((laws_eqTransaction.f k t342 t343 t344 t345 t346 t347 t348 t349 t352 bt361.1 bt361.2.1 bt361.2.2.1 bt361.2.2.2.1 bt361.2.2.2.2.1 bt361.2.2.2.2.2.1 bt361.2.2.2.2.2.2.1 bt361.2.2.2.2.2.2.2.1 bt361.2.2.2.2.2.2.2.2).bind fun t374 => (if t374 = true then (some true) else (some false)))) = some r := by rw [if_pos rfl] at H; exact H
 clear H
 have H := H1
 clear H1
 replace H := Option.bind_eq_some_iff.mp H
 obtain ⟨⟨t361, t362, t363, t364, t365, t366, t367, t368, t371⟩, A290, H⟩ := H
 replace H : ((laws_eqTransaction.f k t342 t343 t344 t345 t346 t347 t348 t349 t352 t361 t362 t363 t364 t365 t366 t367 t368 t371).bind fun t374 => (if t374 = true then (some true) else (some false))) = some r := H
 have A29 := AM_ A290
 clear A290
 replace H := Option.bind_eq_some_iff.mp H
 obtain ⟨t374, A300, H⟩ := H
 replace H : (if t374 = true then (some true) else (some false)) = some r := H
 have A30 := AM_ A300
 clear A300
 by_cases c31 : t374 = true
 ·subst c31
  have H1 : (some true) = some r := by rw [if_pos rfl] at H; exact H
  clear H
  have H := H1
  clear H1
  obtain rfl := Option.some.inj H
  go_enter Try.func5, Try.ntmps5
  try go_wp2_with (first | ((with_reducible refine gate_dst (N := 2) rfl ?_); refine box_event ?hg (N := 2) ?hd (cs := #[.slice A0_0 l0_0.length c0_0]) (t := 39) ?hr ?_; (case hd => rfl); (case hg => rfl); (case hr => first | (go_simp; done) | (go_simp; rfl)); intro gb317 hg w32 hbox hb; have BK317 := AM_ (hbox); have GW317 := AM_ ((GS HB.out hg)); have GE317 := AM_ ((GS HB.out hg)); replace HB := AM_ (below_step (BT HB.out) hb); clear hb hbox hg) | ((with_reducible refine gate_dst (N := 3) rfl ?_); refine box_event ?hg (N := 3) ?hd (cs := #[.int .i64 a1_0, .int .i64 a1_1, .int .i64 a1_2, .int .i64 a1_3, .int .i64 a1_4, .int .i64 a1_5, .int .i64 a1_6, .slice A1_7 l1_7.length c1_7, .slice A1_8 l1_8.length c1_8]) (t := 60) ?hr ?_; (case hd => rfl); (case hg => rfl); (case hr => first | (go_simp; done) | (go_simp; rfl)); intro gb318 hg w33 hbox hb; have BK318 := AM_ (hbox); have GW318 := AM_ ((GS HB.out hg)); have GE318 := AM_ ((GS HB.out hg)); replace HB := AM_ (below_step (BT HB.out) hb); have NB317_318 := AM_ ((NL BK317.out hg)); have NB318_317 := AM_ ((NG BK317.out hg)); replace BK317 := AM_ (BB BK317.out hb); clear hb hbox hg; have hnb34 := NB317_318.out; have hnc34 := NB318_317.out; obtain ⟨hcz35_0, hfz35_0⟩ := bk1 BK317.out) | ((with_reducible refine gate_callee (f := 32) rfl ?_); refine goesL_ (some 12) rfl rfl Try.func32 (by kernel_rfl) rfl #[.agg #[.slice A0_0 l0_0.length c0_0], .int .i64 1048576] rfl (by (try simp only [List.map_toArray, List.map_cons, List.map_nil]); first | done | rfl | (simp only [List.length_drop, List.length_take]; rfl)) ?_; (with_reducible refine (laws_szStore.calls k _ _ l0_0 1048576 t319 _ ?side1 ?side2 A3.out).mono ?_); (case side1 => exact CB HR0_0.out HB.out); (case side2 => exact HC0_0.out); rintro e w36 ⟨rfl, hb⟩; refine ⟨_, rfl, ?_⟩; replace BK317 := AM_ (BB BK317.out hb); replace BK318 := AM_ (BB BK318.out hb); replace HB := AM_ (below_step (BT HB.out) hb); (try clear hb); (try clear hb2); (try clear hk); (try clear hi); obtain ⟨hcz37_0, hcz37_1, hcz37_2, hcz37_3, hcz37_4, hcz37_5, hcz37_6, hcz37_7, hcz37_8, hfz37_0, hfz37_1, hfz37_2, hfz37_3, hfz37_4, hfz37_5, hfz37_6, hfz37_7, hfz37_8⟩ := bk9 BK318.out) | ((with_reducible refine gate_callee (f := 33) rfl ?_); refine goesL_ (some 17) rfl rfl Try.func33 (by kernel_rfl) rfl #[.agg #[.int .i64 a1_0, .int .i64 a1_1, .int .i64 a1_2, .int .i64 a1_3, .int .i64 a1_4, .int .i64 a1_5, .int .i64 a1_6, .slice A1_7 l1_7.length c1_7, .slice A1_8 l1_8.length c1_8], .int .i64 t319] rfl (by (try simp only [List.map_toArray, List.map_cons, List.map_nil]); first | done | rfl | (simp only [List.length_drop, List.length_take]; rfl)) ?_; (with_reducible refine (laws_szTransaction.calls a1_0 a1_1 a1_2 a1_3 a1_4 a1_5 a1_6 _ _ l1_7 _ _ l1_8 t319 t320 _ ?side1 ?side2 ?side3 ?side4 A10.out).mono ?_); (case side1 => exact CB HR1_7.out HB.out); (case side2 => exact HC1_7.out); (case side3 => exact CB HR1_8.out HB.out); (case side4 => exact HC1_8.out); rintro e w38 ⟨rfl, hb⟩; refine ⟨_, rfl, ?_⟩; replace BK317 := AM_ (BB BK317.out hb); replace BK318 := AM_ (BB BK318.out hb); replace HB := AM_ (below_step (BT HB.out) hb); (try clear hb); (try clear hb2); (try clear hk); (try clear hi)))
  replace BK317 := AM_ (blk_drew BK317.out)
  replace BK318 := AM_ (blk_drew BK318.out)
  replace HB := AM_ (below_drew1 HB.out)
  refine start_ (n := 6) (S := fun w' => w'.cell? ⟨gb317, 0, none⟩ = some (.slice A0_0 l0_0.length c0_0) ∧ w'.cell? ⟨gb318, 0, none⟩ = some (.int .i64 a1_0) ∧ w'.cell? ⟨gb318, 1, none⟩ = some (.int .i64 a1_1) ∧ w'.cell? ⟨gb318, 2, none⟩ = some (.int .i64 a1_2) ∧ w'.cell? ⟨gb318, 3, none⟩ = some (.int .i64 a1_3) ∧ w'.cell? ⟨gb318, 4, none⟩ = some (.int .i64 a1_4) ∧ w'.cell? ⟨gb318, 5, none⟩ = some (.int .i64 a1_5) ∧ w'.cell? ⟨gb318, 6, none⟩ = some (.int .i64 a1_6) ∧ w'.cell? ⟨gb318, 7, none⟩ = some (.slice A1_7 l1_7.length c1_7) ∧ w'.cell? ⟨gb318, 8, none⟩ = some (.slice A1_8 l1_8.length c1_8)) (ds := []) (bs 0 6) (by kernel_rfl) rfl rfl ⟨bc BK317.out 0, bc BK318.out 0, bc BK318.out 1, bc BK318.out 2, bc BK318.out 3, bc BK318.out 4, bc BK318.out 5, bc BK318.out 6, bc BK318.out 7, bc BK318.out 8⟩ (fun hHeld => ?_)
  generalize w38.drew = w39 at BK317 BK318 HB hHeld ⊢
  refine take_ (i := 0) (N := some 20) (v := ?_) (a' := ?_) (bs 1 6) rfl rfl (by kernel_rfl) (fun _ _ _ h => h) (Or.inl ⟨by rfl, ?_⟩) hHeld ?_ ?_
  rotate_left
  ·rintro w' ⟨s0, s1, s2, s3, s4, s5, s6, s7, s8, s9⟩
   go_simp
   with_reducible rfl
  rotate_left
  ·simp only [pA, pS, pZ, pK, i64_w, i32_w]
   rfl
  refine take_ (i := 2) (N := some 22) (v := ?_) (a' := ?_) (bs 5 6) rfl rfl (by kernel_rfl) (fun _ _ _ h => h) (Or.inl ⟨by rfl, ?_⟩) hHeld ?_ ?_
  rotate_left
  ·rintro w' ⟨s0, s1, s2, s3, s4, s5, s6, s7, s8, s9⟩
   go_simp
   with_reducible rfl
  rotate_left
  ·simp only [pA, pS, pZ, pK, i64_w, i32_w]
   rfl
  refine one_ (i := 1) (N := some 21) (bs 7 6) rfl rfl (by kernel_rfl) (by decide) (fun K hK => ?_)
  refine goes_ Try.func35 (by kernel_rfl) rfl #[.agg #[.slice A0_0 l0_0.length c0_0]] (by rfl) rfl rfl (by (try simp only [List.map_toArray, List.map_cons, List.map_nil]); first | done | rfl | (simp only [List.length_drop, List.length_take]; rfl)) ?_
  with_reducible refine (laws_toStore.calls k _ _ l0_0 t321 _ ?side1 ?side2 A19.out).mono ?_
  (case side1 => exact CB HR0_0.out HB.out)
  (case side2 => exact HC0_0.out)
  rintro e w40 ⟨v322, rfl, ho0, hb⟩
  refine ⟨_, rfl, ?_⟩
  have HO323 := AM_ (Kd.S_lower ho0 (below_size (BT HB.out)))
  replace BK317 := AM_ (BB BK317.out hb)
  replace BK318 := AM_ (BB BK318.out hb)
  replace HB := AM_ (below_step (BT HB.out) hb)
  (try clear hb)
  (try clear hb2)
  (try clear hk)
  (try clear hi)
  (try clear ho0)
  refine hK.out _ _ ⟨bc BK317.out 0, bc BK318.out 0, bc BK318.out 1, bc BK318.out 2, bc BK318.out 3, bc BK318.out 4, bc BK318.out 5, bc BK318.out 6, bc BK318.out 7, bc BK318.out 8⟩ (fun hHeld => ?_)
  clear hK K
  refine norm_ (a' := ?_) ?_ ?_
  rotate_left
  ·show Act.put _ (some 21) _ = _
   simp only [pA, pS, pZ, pK, i64_w, i32_w]
   rfl
  refine one_ (i := 3) (N := some 23) (bs 15 6) rfl rfl (by kernel_rfl) (by decide) (fun K hK => ?_)
  refine goes_ Try.func36 (by kernel_rfl) rfl #[.agg #[.int .i64 a1_0, .int .i64 a1_1, .int .i64 a1_2, .int .i64 a1_3, .int .i64 a1_4, .int .i64 a1_5, .int .i64 a1_6, .slice A1_7 l1_7.length c1_7, .slice A1_8 l1_8.length c1_8]] (by rfl) rfl rfl (by (try simp only [List.map_toArray, List.map_cons, List.map_nil]); first | done | rfl | (simp only [List.length_drop, List.length_take]; rfl)) ?_
  with_reducible refine (laws_toTransaction.calls k a1_0 a1_1 a1_2 a1_3 a1_4 a1_5 a1_6 _ _ l1_7 _ _ l1_8 t324 t325 t326 t327 t328 t329 t330 t331 t334 _ ?side1 ?side2 ?side3 ?side4 A20.out).mono ?_
  (case side1 => exact CB HR1_7.out HB.out)
  (case side2 => exact HC1_7.out)
  (case side3 => exact CB HR1_8.out HB.out)
  (case side4 => exact HC1_8.out)
  rintro e w41 ⟨v332, v335, rfl, ho0, ho1, hb⟩
  refine ⟨_, rfl, ?_⟩
  replace HO323 := AM_ (Kd.S_below (ST HO323.out) hb)
  have HO333 := AM_ (Kd.R_lower ho0 (below_size (BT HB.out)))
  have HO336 := AM_ (Kd.R_lower ho1 (below_size (BT HB.out)))
  replace BK317 := AM_ (BB BK317.out hb)
  replace BK318 := AM_ (BB BK318.out hb)
  replace HB := AM_ (below_step (BT HB.out) hb)
  (try clear hb)
  (try clear hb2)
  (try clear hk)
  (try clear hi)
  (try clear ho0)
  (try clear ho1)
  obtain ⟨Ao42, co42, eo42⟩ := Kd.S_slice HO323.out
  (first | subst eo42 | (injection eo42 with f1_ f2_ f3_; have f4_ := f1_.symm; have f5_ := f3_.symm; clear f1_ f2_ f3_; subst f4_; subst f5_))
  obtain ⟨Ao43, co43, eo43⟩ := Kd.R_slice HO333.out
  (first | subst eo43 | (injection eo43 with f1_ f2_ f3_; have f4_ := f1_.symm; have f5_ := f3_.symm; clear f1_ f2_ f3_; subst f4_; subst f5_))
  obtain ⟨Ao44, co44, eo44⟩ := Kd.R_slice HO336.out
  (first | subst eo44 | (injection eo44 with f1_ f2_ f3_; have f4_ := f1_.symm; have f5_ := f3_.symm; clear f1_ f2_ f3_; subst f4_; subst f5_))
  refine hK.out _ _ ⟨bc BK317.out 0, bc BK318.out 0, bc BK318.out 1, bc BK318.out 2, bc BK318.out 3, bc BK318.out 4, bc BK318.out 5, bc BK318.out 6, bc BK318.out 7, bc BK318.out 8⟩ (fun hHeld => ?_)
  clear hK K
  refine norm_ (a' := ?_) ?_ ?_
  rotate_left
  ·show Act.put _ (some 23) _ = _
   simp only [pA, pS, pZ, pK, i64_w, i32_w]
   rfl
  refine one_ (i := 4) (N := some 24) (bs 31 6) rfl rfl (by kernel_rfl) (by decide) (fun K hK => ?_)
  refine goes_ Try.func34 (by kernel_rfl) rfl #[.agg #[.slice Ao42 t321.length co42], .agg #[.int .i64 t324, .int .i64 t325, .int .i64 t326, .int .i64 t327, .int .i64 t328, .int .i64 t329, .int .i64 t330, .slice Ao43 t331.length co43, .slice Ao44 t334.length co44]] (by rfl) rfl rfl (by (try simp only [List.map_toArray, List.map_cons, List.map_nil]); first | done | rfl | (simp only [List.length_drop, List.length_take]; rfl)) ?_
  with_reducible refine (spec_CommitCode.calls k _ _ t321 t324 t325 t326 t327 t328 t329 t330 _ _ t331 _ _ t334 t337 _ ?side1 ?side2 ?side3 ?side4 ?side5 ?side6 A21.out).mono ?_
  (case side1 => exact Kd.C_below (Kd.S_reads' HO323.out).2.2 (BL (Below.refl _ _) rfl rfl rfl rfl))
  (case side2 => exact (Kd.S_reads' HO323.out).2.1)
  (case side3 => exact Kd.C_below (Kd.R_reads' HO333.out).2.2 (BL (Below.refl _ _) rfl rfl rfl rfl))
  (case side4 => exact (Kd.R_reads' HO333.out).2.1)
  (case side5 => exact Kd.C_below (Kd.R_reads' HO336.out).2.2 (BL (Below.refl _ _) rfl rfl rfl rfl))
  (case side6 => exact (Kd.R_reads' HO336.out).2.1)
  rintro e w45 ⟨rfl, hb⟩
  refine ⟨_, rfl, ?_⟩
  replace HO323 := AM_ (Kd.S_below (ST HO323.out) hb)
  replace HO333 := AM_ (Kd.R_below (RT HO333.out) hb)
  replace HO336 := AM_ (Kd.R_below (RT HO336.out) hb)
  replace BK317 := AM_ (BB BK317.out hb)
  replace BK318 := AM_ (BB BK318.out hb)
  replace HB := AM_ (below_step (BT HB.out) hb)
  (try clear hb)
  (try clear hb2)
  (try clear hk)
  (try clear hi)
  refine hK.out _ _ ⟨bc BK317.out 0, bc BK318.out 0, bc BK318.out 1, bc BK318.out 2, bc BK318.out 3, bc BK318.out 4, bc BK318.out 5, bc BK318.out 6, bc BK318.out 7, bc BK318.out 8⟩ (fun hHeld => ?_)
  clear hK K
  refine norm_ (a' := ?_) ?_ ?_
  rotate_left
  ·show Act.put _ (some 24) _ = _
   simp only [pA, pS, pZ, pK, i64_w, i32_w]
   rfl
  refine pure_ (i := 5) (N := some 6) (v := ?_) (a' := ?_) (bs 63 6) rfl rfl (by kernel_rfl) (fun _ _ _ h => h) (Or.inl ⟨by rfl, ?_⟩) ?_ ?_
  rotate_left
  ·intro w'
   go_simp
   with_reducible rfl
  rotate_left
  ·simp only [pA, pS, pZ, pK, i64_w, i32_w]
   rfl
  refine done_ (by kernel_rfl) ?_
  obtain ⟨hcz46_0, hfz46_0⟩ := bk1 BK317.out
  try go_wp2_with (first | ((with_reducible refine gate_callee (f := 35) rfl ?_); refine goesL_ (some 26) rfl rfl Try.func35 (by kernel_rfl) rfl #[.agg #[.slice A0_0 l0_0.length c0_0]] rfl (by (try simp only [List.map_toArray, List.map_cons, List.map_nil]); first | done | rfl | (simp only [List.length_drop, List.length_take]; rfl)) ?_; (with_reducible refine (laws_toStore.calls k _ _ l0_0 t338 _ ?side1 ?side2 A22.out).mono ?_); (case side1 => exact CB HR0_0.out HB.out); (case side2 => exact HC0_0.out); rintro e w47 ⟨v339, rfl, ho0, hb⟩; refine ⟨_, rfl, ?_⟩; replace HO333 := AM_ (Kd.R_below (RT HO333.out) hb); replace HO336 := AM_ (Kd.R_below (RT HO336.out) hb); have HO340 := AM_ (Kd.S_lower (Kd.S_new' ho0 (Kd.S_lt (ST HO323.out))) (below_size (BT HB.out))); replace HO323 := AM_ (Kd.S_elder' (ST HO323.out) (Kd.S_base ho0) hb); replace BK317 := AM_ (BB BK317.out hb); replace BK318 := AM_ (BB BK318.out hb); replace HB := AM_ (below_step (BT HB.out) hb); (try clear hb); (try clear hb2); (try clear hk); (try clear hi); (try clear ho0)) | ((with_reducible refine gate_dst (N := 7) rfl ?_); refine box_event ?hg (N := 7) ?hd (cs := #[.slice none 0 0]) (t := 49) ?hr ?_; (case hd => rfl); (case hg => rfl); (case hr => first | (go_simp; done) | (go_simp; rfl)); intro gb341 hg w48 hbox hb; replace HO323 := AM_ (Kd.S_below (ST HO323.out) hb); replace HO333 := AM_ (Kd.R_below (RT HO333.out) hb); replace HO336 := AM_ (Kd.R_below (RT HO336.out) hb); replace HO340 := AM_ (Kd.S_below (ST HO340.out) hb); have BK341 := AM_ (hbox); have GW341 := AM_ ((GS HB.out hg)); have GE341 := AM_ ((GS HB.out hg)); replace HB := AM_ (below_step (BT HB.out) hb); have NB317_341 := AM_ ((NL BK317.out hg)); have NB341_317 := AM_ ((NG BK317.out hg)); replace BK317 := AM_ (BB BK317.out hb); have NB318_341 := AM_ ((NL BK318.out hg)); have NB341_318 := AM_ ((NG BK318.out hg)); replace BK318 := AM_ (BB BK318.out hb); clear hb hbox hg; obtain ⟨Ao49, co49, eo49⟩ := Kd.S_slice HO340.out; subst eo49; have hnb50 := NB341_317.out; have hnc50 := NB317_341.out; have hnb51 := NB341_318.out; have hnc51 := NB318_341.out; obtain ⟨hcz52_0, hfz52_0⟩ := bk1 BK341.out; obtain ⟨hcz53_0, hcz53_1, hcz53_2, hcz53_3, hcz53_4, hcz53_5, hcz53_6, hcz53_7, hcz53_8, hfz53_0, hfz53_1, hfz53_2, hfz53_3, hfz53_4, hfz53_5, hfz53_6, hfz53_7, hfz53_8⟩ := bk9 BK318.out) | ((with_reducible refine gate_callee (f := 36) rfl ?_); refine goesL_ (some 28) rfl rfl Try.func36 (by kernel_rfl) rfl #[.agg #[.int .i64 a1_0, .int .i64 a1_1, .int .i64 a1_2, .int .i64 a1_3, .int .i64 a1_4, .int .i64 a1_5, .int .i64 a1_6, .slice A1_7 l1_7.length c1_7, .slice A1_8 l1_8.length c1_8]] rfl (by (try simp only [List.map_toArray, List.map_cons, List.map_nil]); first | done | rfl | (simp only [List.length_drop, List.length_take]; rfl)) ?_; (with_reducible refine (laws_toTransaction.calls k a1_0 a1_1 a1_2 a1_3 a1_4 a1_5 a1_6 _ _ l1_7 _ _ l1_8 t342 t343 t344 t345 t346 t347 t348 t349 t352 _ ?side1 ?side2 ?side3 ?side4 A23.out).mono ?_); (case side1 => exact Kd.C_below HR1_7.out (BT HB.out)); (case side2 => exact HC1_7.out); (case side3 => exact Kd.C_below HR1_8.out (BT HB.out)); (case side4 => exact HC1_8.out); rintro e w54 ⟨v350, v353, rfl, ho0, ho1, hb⟩; refine ⟨_, rfl, ?_⟩; replace HO323 := AM_ (Kd.S_below (SF HO323.out BK341.out) hb); replace HO340 := AM_ (Kd.S_below (SF HO340.out BK341.out) hb); have HO351 := AM_ (Kd.R_lower (Kd.R_new' ho0 (Kd.R_lt (RF HO333.out BK341.out))) (below_size (BT HB.out))); replace HO333 := AM_ (Kd.R_elder' (RF HO333.out BK341.out) (Kd.R_base ho0) hb); have HO354 := AM_ (Kd.R_lower (Kd.R_new' ho1 (Kd.R_lt (RF HO336.out BK341.out))) (below_size (BT HB.out))); replace HO336 := AM_ (Kd.R_elder' (RF HO336.out BK341.out) (Kd.R_base ho1) hb); replace BK317 := AM_ (blk_below (g := gb317) (o := .cells #[.slice A0_0 l0_0.length c0_0] 39 (0, 0)) (by (with_reducible repeat (first | refine blk_drewN ?_ _ | refine blk_drew ?_ | refine blk_alloc ?_ _)); refine blk_far ?_ NB317_341.out _; (with_reducible repeat (first | refine blk_drewN ?_ _ | refine blk_drew ?_ | refine blk_alloc ?_ _)); exact BK317.out) hb); replace BK318 := AM_ (blk_below (g := gb318) (o := .cells #[.int .i64 a1_0, .int .i64 a1_1, .int .i64 a1_2, .int .i64 a1_3, .int .i64 a1_4, .int .i64 a1_5, .int .i64 a1_6, .slice A1_7 l1_7.length c1_7, .slice A1_8 l1_8.length c1_8] 60 (0, 0)) (by (with_reducible repeat (first | refine blk_drewN ?_ _ | refine blk_drew ?_ | refine blk_alloc ?_ _)); refine blk_far ?_ NB318_341.out _; (with_reducible repeat (first | refine blk_drewN ?_ _ | refine blk_drew ?_ | refine blk_alloc ?_ _)); exact BK318.out) hb); replace BK341 := AM_ (blk_below (g := gb341) (o := .cells #[.slice Ao49 t338.length co49] 49 (0, 0)) (by (with_reducible repeat (first | refine blk_drewN ?_ _ | refine blk_drew ?_ | refine blk_alloc ?_ _)); refine blk_put (cs := #[.slice none 0 0]) ?_ 0 _ rfl; (with_reducible repeat (first | refine blk_drewN ?_ _ | refine blk_drew ?_ | refine blk_alloc ?_ _)); exact BK341.out) hb); replace HB := AM_ (below_step (BT HB.out) hb); (try clear hb); (try clear hb2); (try clear hk); (try clear hi); (try clear ho0); (try clear ho1)) | ((with_reducible refine gate_dst (N := 8) rfl ?_); refine box_event ?hg (N := 8) ?hd (cs := #[.int .i64 0, .int .i64 0, .int .i64 0, .int .i64 0, .int .i64 0, .int .i64 0, .int .i64 0, .slice none 0 0, .slice none 0 0]) (t := 68) ?hr ?_; (case hd => rfl); (case hg => rfl); (case hr => first | (go_simp; done) | (go_simp; rfl)); intro gb355 hg w55 hbox hb; replace HO323 := AM_ (Kd.S_below (ST HO323.out) hb); replace HO333 := AM_ (Kd.R_below (RT HO333.out) hb); replace HO336 := AM_ (Kd.R_below (RT HO336.out) hb); replace HO340 := AM_ (Kd.S_below (ST HO340.out) hb); replace HO351 := AM_ (Kd.R_below (RT HO351.out) hb); replace HO354 := AM_ (Kd.R_below (RT HO354.out) hb); have BK355 := AM_ (hbox); have GW355 := AM_ ((GS HB.out hg)); have GE355 := AM_ ((GS HB.out hg)); replace HB := AM_ (below_step (BT HB.out) hb); have NB317_355 := AM_ ((NL BK317.out hg)); have NB355_317 := AM_ ((NG BK317.out hg)); replace BK317 := AM_ (BB BK317.out hb); have NB318_355 := AM_ ((NL BK318.out hg)); have NB355_318 := AM_ ((NG BK318.out hg)); replace BK318 := AM_ (BB BK318.out hb); have NB341_355 := AM_ ((NL BK341.out hg)); have NB355_341 := AM_ ((NG BK341.out hg)); replace BK341 := AM_ (BB BK341.out hb); clear hb hbox hg; have hnb56 := NB355_317.out; have hnc56 := NB317_355.out; have hnb57 := NB355_318.out; have hnc57 := NB318_355.out; have hnb58 := NB355_341.out; have hnc58 := NB341_355.out; obtain ⟨hcz59_0, hcz59_1, hcz59_2, hcz59_3, hcz59_4, hcz59_5, hcz59_6, hcz59_7, hcz59_8, hfz59_0, hfz59_1, hfz59_2, hfz59_3, hfz59_4, hfz59_5, hfz59_6, hfz59_7, hfz59_8⟩ := bk9 BK355.out; obtain ⟨Ao60, co60, eo60⟩ := Kd.R_slice HO351.out; subst eo60; obtain ⟨Ao61, co61, eo61⟩ := Kd.R_slice HO354.out; subst eo61; obtain ⟨hcz62_0, hfz62_0⟩ := bk1 BK341.out) | ((with_reducible refine gate_callee (f := 37) rfl ?_); refine goesL_ (some 31) rfl rfl Try.func37 (by kernel_rfl) rfl #[.agg #[.slice Ao49 t338.length co49], .agg #[.int .i64 t342, .int .i64 t343, .int .i64 t344, .int .i64 t345, .int .i64 t346, .int .i64 t347, .int .i64 t348, .slice Ao60 t349.length co60, .slice Ao61 t352.length co61]] rfl (by (try simp only [List.map_toArray, List.map_cons, List.map_nil]); first | done | rfl | (simp only [List.length_drop, List.length_take]; rfl)) ?_; (with_reducible refine (impl_CommitCode.calls k _ _ t338 t342 t343 t344 t345 t346 t347 t348 _ _ t349 _ _ t352 t356 _ ?side1 ?side2 ?side3 ?side4 ?side5 ?side6 A24.out).mono ?_); (case side1 => exact CG HO340.out BK355.out); (case side2 => exact (Kd.S_reads' HO340.out).2.1); (case side3 => exact CF HO351.out BK355.out); (case side4 => exact (Kd.R_reads' HO351.out).2.1); (case side5 => exact CF HO354.out BK355.out); (case side6 => exact (Kd.R_reads' HO354.out).2.1); rintro e w63 ⟨rfl, hb⟩; refine ⟨_, rfl, ?_⟩; replace HO323 := AM_ (Kd.S_below (SF HO323.out BK355.out) hb); replace HO333 := AM_ (Kd.R_below (RF HO333.out BK355.out) hb); replace HO336 := AM_ (Kd.R_below (RF HO336.out BK355.out) hb); replace HO340 := AM_ (Kd.S_below (SF HO340.out BK355.out) hb); replace HO351 := AM_ (Kd.R_below (RF HO351.out BK355.out) hb); replace HO354 := AM_ (Kd.R_below (RF HO354.out BK355.out) hb); replace BK317 := AM_ (blk_below (g := gb317) (o := .cells #[.slice A0_0 l0_0.length c0_0] 39 (0, 0)) (by (with_reducible repeat (first | refine blk_drewN ?_ _ | refine blk_drew ?_ | refine blk_alloc ?_ _)); refine blk_far ?_ NB317_355.out _; (with_reducible repeat (first | refine blk_drewN ?_ _ | refine blk_drew ?_ | refine blk_alloc ?_ _)); refine blk_far ?_ NB317_355.out _; (with_reducible repeat (first | refine blk_drewN ?_ _ | refine blk_drew ?_ | refine blk_alloc ?_ _)); refine blk_far ?_ NB317_355.out _; (with_reducible repeat (first | refine blk_drewN ?_ _ | refine blk_drew ?_ | refine blk_alloc ?_ _)); refine blk_far ?_ NB317_355.out _; (with_reducible repeat (first | refine blk_drewN ?_ _ | refine blk_drew ?_ | refine blk_alloc ?_ _)); refine blk_far ?_ NB317_355.out _; (with_reducible repeat (first | refine blk_drewN ?_ _ | refine blk_drew ?_ | refine blk_alloc ?_ _)); refine blk_far ?_ NB317_355.out _; (with_reducible repeat (first | refine blk_drewN ?_ _ | refine blk_drew ?_ | refine blk_alloc ?_ _)); refine blk_far ?_ NB317_355.out _; (with_reducible repeat (first | refine blk_drewN ?_ _ | refine blk_drew ?_ | refine blk_alloc ?_ _)); refine blk_far ?_ NB317_355.out _; (with_reducible repeat (first | refine blk_drewN ?_ _ | refine blk_drew ?_ | refine blk_alloc ?_ _)); refine blk_far ?_ NB317_355.out _; (with_reducible repeat (first | refine blk_drewN ?_ _ | refine blk_drew ?_ | refine blk_alloc ?_ _)); exact BK317.out) hb); replace BK318 := AM_ (blk_below (g := gb318) (o := .cells #[.int .i64 a1_0, .int .i64 a1_1, .int .i64 a1_2, .int .i64 a1_3, .int .i64 a1_4, .int .i64 a1_5, .int .i64 a1_6, .slice A1_7 l1_7.length c1_7, .slice A1_8 l1_8.length c1_8] 60 (0, 0)) (by (with_reducible repeat (first | refine blk_drewN ?_ _ | refine blk_drew ?_ | refine blk_alloc ?_ _)); refine blk_far ?_ NB318_355.out _; (with_reducible repeat (first | refine blk_drewN ?_ _ | refine blk_drew ?_ | refine blk_alloc ?_ _)); refine blk_far ?_ NB318_355.out _; (with_reducible repeat (first | refine blk_drewN ?_ _ | refine blk_drew ?_ | refine blk_alloc ?_ _)); refine blk_far ?_ NB318_355.out _; (with_reducible repeat (first | refine blk_drewN ?_ _ | refine blk_drew ?_ | refine blk_alloc ?_ _)); refine blk_far ?_ NB318_355.out _; (with_reducible repeat (first | refine blk_drewN ?_ _ | refine blk_drew ?_ | refine blk_alloc ?_ _)); refine blk_far ?_ NB318_355.out _; (with_reducible repeat (first | refine blk_drewN ?_ _ | refine blk_drew ?_ | refine blk_alloc ?_ _)); refine blk_far ?_ NB318_355.out _; (with_reducible repeat (first | refine blk_drewN ?_ _ | refine blk_drew ?_ | refine blk_alloc ?_ _)); refine blk_far ?_ NB318_355.out _; (with_reducible repeat (first | refine blk_drewN ?_ _ | refine blk_drew ?_ | refine blk_alloc ?_ _)); refine blk_far ?_ NB318_355.out _; (with_reducible repeat (first | refine blk_drewN ?_ _ | refine blk_drew ?_ | refine blk_alloc ?_ _)); refine blk_far ?_ NB318_355.out _; (with_reducible repeat (first | refine blk_drewN ?_ _ | refine blk_drew ?_ | refine blk_alloc ?_ _)); exact BK318.out) hb); replace BK341 := AM_ (blk_below (g := gb341) (o := .cells #[.slice Ao49 t338.length co49] 49 (0, 0)) (by (with_reducible repeat (first | refine blk_drewN ?_ _ | refine blk_drew ?_ | refine blk_alloc ?_ _)); refine blk_far ?_ NB341_355.out _; (with_reducible repeat (first | refine blk_drewN ?_ _ | refine blk_drew ?_ | refine blk_alloc ?_ _)); refine blk_far ?_ NB341_355.out _; (with_reducible repeat (first | refine blk_drewN ?_ _ | refine blk_drew ?_ | refine blk_alloc ?_ _)); refine blk_far ?_ NB341_355.out _; (with_reducible repeat (first | refine blk_drewN ?_ _ | refine blk_drew ?_ | refine blk_alloc ?_ _)); refine blk_far ?_ NB341_355.out _; (with_reducible repeat (first | refine blk_drewN ?_ _ | refine blk_drew ?_ | refine blk_alloc ?_ _)); refine blk_far ?_ NB341_355.out _; (with_reducible repeat (first | refine blk_drewN ?_ _ | refine blk_drew ?_ | refine blk_alloc ?_ _)); refine blk_far ?_ NB341_355.out _; (with_reducible repeat (first | refine blk_drewN ?_ _ | refine blk_drew ?_ | refine blk_alloc ?_ _)); refine blk_far ?_ NB341_355.out _; (with_reducible repeat (first | refine blk_drewN ?_ _ | refine blk_drew ?_ | refine blk_alloc ?_ _)); refine blk_far ?_ NB341_355.out _; (with_reducible repeat (first | refine blk_drewN ?_ _ | refine blk_drew ?_ | refine blk_alloc ?_ _)); refine blk_far ?_ NB341_355.out _; (with_reducible repeat (first | refine blk_drewN ?_ _ | refine blk_drew ?_ | refine blk_alloc ?_ _)); exact BK341.out) hb); replace BK355 := AM_ (blk_below (g := gb355) (o := .cells #[.int .i64 t342, .int .i64 t343, .int .i64 t344, .int .i64 t345, .int .i64 t346, .int .i64 t347, .int .i64 t348, .slice Ao60 t349.length co60, .slice Ao61 t352.length co61] 68 (0, 0)) (by (with_reducible repeat (first | refine blk_drewN ?_ _ | refine blk_drew ?_ | refine blk_alloc ?_ _)); refine blk_put (cs := #[.int .i64 t342, .int .i64 t343, .int .i64 t344, .int .i64 t345, .int .i64 t346, .int .i64 t347, .int .i64 t348, .slice Ao60 t349.length co60, .slice none 0 0]) ?_ 8 _ rfl; (with_reducible repeat (first | refine blk_drewN ?_ _ | refine blk_drew ?_ | refine blk_alloc ?_ _)); refine blk_put (cs := #[.int .i64 t342, .int .i64 t343, .int .i64 t344, .int .i64 t345, .int .i64 t346, .int .i64 t347, .int .i64 t348, .slice none 0 0, .slice none 0 0]) ?_ 7 _ rfl; (with_reducible repeat (first | refine blk_drewN ?_ _ | refine blk_drew ?_ | refine blk_alloc ?_ _)); refine blk_put (cs := #[.int .i64 t342, .int .i64 t343, .int .i64 t344, .int .i64 t345, .int .i64 t346, .int .i64 t347, .int .i64 0, .slice none 0 0, .slice none 0 0]) ?_ 6 _ rfl; (with_reducible repeat (first | refine blk_drewN ?_ _ | refine blk_drew ?_ | refine blk_alloc ?_ _)); refine blk_put (cs := #[.int .i64 t342, .int .i64 t343, .int .i64 t344, .int .i64 t345, .int .i64 t346, .int .i64 0, .int .i64 0, .slice none 0 0, .slice none 0 0]) ?_ 5 _ rfl; (with_reducible repeat (first | refine blk_drewN ?_ _ | refine blk_drew ?_ | refine blk_alloc ?_ _)); refine blk_put (cs := #[.int .i64 t342, .int .i64 t343, .int .i64 t344, .int .i64 t345, .int .i64 0, .int .i64 0, .int .i64 0, .slice none 0 0, .slice none 0 0]) ?_ 4 _ rfl; (with_reducible repeat (first | refine blk_drewN ?_ _ | refine blk_drew ?_ | refine blk_alloc ?_ _)); refine blk_put (cs := #[.int .i64 t342, .int .i64 t343, .int .i64 t344, .int .i64 0, .int .i64 0, .int .i64 0, .int .i64 0, .slice none 0 0, .slice none 0 0]) ?_ 3 _ rfl; (with_reducible repeat (first | refine blk_drewN ?_ _ | refine blk_drew ?_ | refine blk_alloc ?_ _)); refine blk_put (cs := #[.int .i64 t342, .int .i64 t343, .int .i64 0, .int .i64 0, .int .i64 0, .int .i64 0, .int .i64 0, .slice none 0 0, .slice none 0 0]) ?_ 2 _ rfl; (with_reducible repeat (first | refine blk_drewN ?_ _ | refine blk_drew ?_ | refine blk_alloc ?_ _)); refine blk_put (cs := #[.int .i64 t342, .int .i64 0, .int .i64 0, .int .i64 0, .int .i64 0, .int .i64 0, .int .i64 0, .slice none 0 0, .slice none 0 0]) ?_ 1 _ rfl; (with_reducible repeat (first | refine blk_drewN ?_ _ | refine blk_drew ?_ | refine blk_alloc ?_ _)); refine blk_put (cs := #[.int .i64 0, .int .i64 0, .int .i64 0, .int .i64 0, .int .i64 0, .int .i64 0, .int .i64 0, .slice none 0 0, .slice none 0 0]) ?_ 0 _ rfl; (with_reducible repeat (first | refine blk_drewN ?_ _ | refine blk_drew ?_ | refine blk_alloc ?_ _)); exact BK355.out) hb); replace HB := AM_ (below_step (BT HB.out) hb); (try clear hb); (try clear hb2); (try clear hk); (try clear hi)))
  replace HO323 := AM_ (Kd.S_drew HO323.out)
  replace HO333 := AM_ (Kd.R_drew HO333.out)
  replace HO336 := AM_ (Kd.R_drew HO336.out)
  replace HO340 := AM_ (Kd.S_drew HO340.out)
  replace HO351 := AM_ (Kd.R_drew HO351.out)
  replace HO354 := AM_ (Kd.R_drew HO354.out)
  replace BK317 := AM_ (blk_drew BK317.out)
  replace BK318 := AM_ (blk_drew BK318.out)
  replace BK341 := AM_ (blk_drew BK341.out)
  replace BK355 := AM_ (blk_drew BK355.out)
  replace HB := AM_ (below_drew1 HB.out)
  refine start_ (n := 5) (S := fun w' => w'.cell? ⟨gb341, 0, none⟩ = some (.slice Ao49 t338.length co49) ∧ w'.cell? ⟨gb317, 0, none⟩ = some (.slice A0_0 l0_0.length c0_0)) (ds := []) (bs 0 5) (by kernel_rfl) rfl rfl ⟨bc BK341.out 0, bc BK317.out 0⟩ (fun hHeld => ?_)
  generalize w63.drew = w64 at HO323 HO333 HO336 HO340 HO351 HO354 BK317 BK318 BK341 BK355 HB hHeld ⊢
  refine take_ (i := 0) (N := some 35) (v := ?_) (a' := ?_) (bs 1 5) rfl rfl (by kernel_rfl) (fun _ _ _ h => h) (Or.inl ⟨by rfl, ?_⟩) hHeld ?_ ?_
  rotate_left
  ·rintro w' ⟨s0, s1⟩
   go_simp
   with_reducible rfl
  rotate_left
  ·simp only [pA, pS, pZ, pK, i64_w, i32_w]
   rfl
  refine take_ (i := 1) (N := some 36) (v := ?_) (a' := ?_) (bs 3 5) rfl rfl (by kernel_rfl) (fun _ _ _ h => h) (Or.inl ⟨by rfl, ?_⟩) hHeld ?_ ?_
  rotate_left
  ·rintro w' ⟨s0, s1⟩
   go_simp
   with_reducible rfl
  rotate_left
  ·simp only [pA, pS, pZ, pK, i64_w, i32_w]
   rfl
  refine one_ (i := 2) (N := some 37) (bs 7 5) rfl rfl (by kernel_rfl) (by decide) (fun K hK => ?_)
  refine goes_ Try.func35 (by kernel_rfl) rfl #[.agg #[.slice A0_0 l0_0.length c0_0]] (by rfl) rfl rfl (by (try simp only [List.map_toArray, List.map_cons, List.map_nil]); first | done | rfl | (simp only [List.length_drop, List.length_take]; rfl)) ?_
  with_reducible refine (laws_toStore.calls k _ _ l0_0 t357 _ ?side1 ?side2 A26.out).mono ?_
  (case side1 => exact CB HR0_0.out HB.out)
  (case side2 => exact HC0_0.out)
  rintro e w65 ⟨v358, rfl, ho0, hb⟩
  refine ⟨_, rfl, ?_⟩
  replace HO333 := AM_ (Kd.R_below (RT HO333.out) hb)
  replace HO336 := AM_ (Kd.R_below (RT HO336.out) hb)
  replace HO351 := AM_ (Kd.R_below (RT HO351.out) hb)
  replace HO354 := AM_ (Kd.R_below (RT HO354.out) hb)
  have HO359 := AM_ (Kd.S_lower (Kd.S_new' (Kd.S_new' ho0 (Kd.S_lt (ST HO323.out))) (Kd.S_lt (ST HO340.out))) (below_size (BT HB.out)))
  replace HO323 := AM_ (Kd.S_elder' (ST HO323.out) (Kd.S_base ho0) hb)
  replace HO340 := AM_ (Kd.S_elder' (ST HO340.out) (Kd.S_base ho0) hb)
  replace BK317 := AM_ (BB BK317.out hb)
  replace BK318 := AM_ (BB BK318.out hb)
  replace BK341 := AM_ (BB BK341.out hb)
  replace BK355 := AM_ (BB BK355.out hb)
  replace HB := AM_ (below_step (BT HB.out) hb)
  (try clear hb)
  (try clear hb2)
  (try clear hk)
  (try clear hi)
  (try clear ho0)
  obtain ⟨Ao66, co66, eo66⟩ := Kd.S_slice HO359.out
  (first | subst eo66 | (injection eo66 with f1_ f2_ f3_; have f4_ := f1_.symm; have f5_ := f3_.symm; clear f1_ f2_ f3_; subst f4_; subst f5_))
  refine hK.out _ _ ⟨bc BK341.out 0, bc BK317.out 0⟩ (fun hHeld => ?_)
  clear hK K
  refine norm_ (a' := ?_) ?_ ?_
  rotate_left
  ·show Act.put _ (some 37) _ = _
   simp only [pA, pS, pZ, pK, i64_w, i32_w]
   rfl
  refine one_ (i := 3) (N := some 38) (bs 15 5) rfl rfl (by kernel_rfl) (by decide) (fun K hK => ?_)
  refine goes_ Try.func38 (by kernel_rfl) rfl #[.agg #[.slice Ao49 t338.length co49], .agg #[.slice Ao66 t357.length co66]] (by rfl) rfl rfl (by (try simp only [List.map_toArray, List.map_cons, List.map_nil]); first | done | rfl | (simp only [List.length_drop, List.length_take]; rfl)) ?_
  with_reducible refine (laws_eqStore.calls k _ _ t338 _ _ t357 true _ ?side1 ?side2 ?side3 ?side4 A27.out).mono ?_
  (case side1 => exact Kd.C_below (Kd.S_reads' HO340.out).2.2 (BL (Below.refl _ _) rfl rfl rfl rfl))
  (case side2 => exact (Kd.S_reads' HO340.out).2.1)
  (case side3 => exact Kd.C_below (Kd.S_reads' HO359.out).2.2 (BL (Below.refl _ _) rfl rfl rfl rfl))
  (case side4 => exact (Kd.S_reads' HO359.out).2.1)
  rintro e w67 ⟨rfl, hb⟩
  refine ⟨_, rfl, ?_⟩
  replace HO323 := AM_ (Kd.S_below (ST HO323.out) hb)
  replace HO333 := AM_ (Kd.R_below (RT HO333.out) hb)
  replace HO336 := AM_ (Kd.R_below (RT HO336.out) hb)
  replace HO340 := AM_ (Kd.S_below (ST HO340.out) hb)
  replace HO351 := AM_ (Kd.R_below (RT HO351.out) hb)
  replace HO354 := AM_ (Kd.R_below (RT HO354.out) hb)
  replace HO359 := AM_ (Kd.S_below (ST HO359.out) hb)
  replace BK317 := AM_ (BB BK317.out hb)
  replace BK318 := AM_ (BB BK318.out hb)
  replace BK341 := AM_ (BB BK341.out hb)
  replace BK355 := AM_ (BB BK355.out hb)
  replace HB := AM_ (below_step (BT HB.out) hb)
  (try clear hb)
  (try clear hb2)
  (try clear hk)
  (try clear hi)
  refine hK.out _ _ ⟨bc BK341.out 0, bc BK317.out 0⟩ (fun hHeld => ?_)
  clear hK K
  refine norm_ (a' := ?_) ?_ ?_
  rotate_left
  ·show Act.put _ (some 38) _ = _
   simp only [pA, pS, pZ, pK, i64_w, i32_w]
   rfl
  refine pure_ (i := 4) (N := some 39) (v := ?_) (a' := ?_) (bs 31 5) rfl rfl (by kernel_rfl) (fun _ _ _ h => h) (Or.inl ⟨by rfl, ?_⟩) ?_ ?_
  rotate_left
  ·intro w'
   go_simp
   with_reducible rfl
  rotate_left
  ·simp only [pA, pS, pZ, pK, i64_w, i32_w]
   rfl
  refine done_ (by kernel_rfl) ?_
  try go_wp2
  replace HO323 := AM_ (Kd.S_drew HO323.out)
  replace HO333 := AM_ (Kd.R_drew HO333.out)
  replace HO336 := AM_ (Kd.R_drew HO336.out)
  replace HO340 := AM_ (Kd.S_drew HO340.out)
  replace HO351 := AM_ (Kd.R_drew HO351.out)
  replace HO354 := AM_ (Kd.R_drew HO354.out)
  replace HO359 := AM_ (Kd.S_drew HO359.out)
  replace BK317 := AM_ (blk_drew BK317.out)
  replace BK318 := AM_ (blk_drew BK318.out)
  replace BK341 := AM_ (blk_drew BK341.out)
  replace BK355 := AM_ (blk_drew BK355.out)
  replace HB := AM_ (below_drew1 HB.out)
  refine start_ (n := 5) (S := fun w' => w'.cell? ⟨gb355, 0, none⟩ = some (.int .i64 t342) ∧ w'.cell? ⟨gb355, 1, none⟩ = some (.int .i64 t343) ∧ w'.cell? ⟨gb355, 2, none⟩ = some (.int .i64 t344) ∧ w'.cell? ⟨gb355, 3, none⟩ = some (.int .i64 t345) ∧ w'.cell? ⟨gb355, 4, none⟩ = some (.int .i64 t346) ∧ w'.cell? ⟨gb355, 5, none⟩ = some (.int .i64 t347) ∧ w'.cell? ⟨gb355, 6, none⟩ = some (.int .i64 t348) ∧ w'.cell? ⟨gb355, 7, none⟩ = some (.slice Ao60 t349.length co60) ∧ w'.cell? ⟨gb355, 8, none⟩ = some (.slice Ao61 t352.length co61) ∧ w'.cell? ⟨gb318, 0, none⟩ = some (.int .i64 a1_0) ∧ w'.cell? ⟨gb318, 1, none⟩ = some (.int .i64 a1_1) ∧ w'.cell? ⟨gb318, 2, none⟩ = some (.int .i64 a1_2) ∧ w'.cell? ⟨gb318, 3, none⟩ = some (.int .i64 a1_3) ∧ w'.cell? ⟨gb318, 4, none⟩ = some (.int .i64 a1_4) ∧ w'.cell? ⟨gb318, 5, none⟩ = some (.int .i64 a1_5) ∧ w'.cell? ⟨gb318, 6, none⟩ = some (.int .i64 a1_6) ∧ w'.cell? ⟨gb318, 7, none⟩ = some (.slice A1_7 l1_7.length c1_7) ∧ w'.cell? ⟨gb318, 8, none⟩ = some (.slice A1_8 l1_8.length c1_8)) (ds := []) (bs 0 5) (by kernel_rfl) rfl rfl ⟨bc BK355.out 0, bc BK355.out 1, bc BK355.out 2, bc BK355.out 3, bc BK355.out 4, bc BK355.out 5, bc BK355.out 6, bc BK355.out 7, bc BK355.out 8, bc BK318.out 0, bc BK318.out 1, bc BK318.out 2, bc BK318.out 3, bc BK318.out 4, bc BK318.out 5, bc BK318.out 6, bc BK318.out 7, bc BK318.out 8⟩ (fun hHeld => ?_)
  generalize w67.drew = w68 at HO323 HO333 HO336 HO340 HO351 HO354 HO359 BK317 BK318 BK341 BK355 HB hHeld ⊢
  refine take_ (i := 0) (N := some 40) (v := ?_) (a' := ?_) (bs 1 5) rfl rfl (by kernel_rfl) (fun _ _ _ h => h) (Or.inl ⟨by rfl, ?_⟩) hHeld ?_ ?_
  rotate_left
  ·rintro w' ⟨s0, s1, s2, s3, s4, s5, s6, s7, s8, s9, s10, s11, s12, s13, s14, s15, s16, s17⟩
   go_simp
   with_reducible rfl
  rotate_left
  ·simp only [pA, pS, pZ, pK, i64_w, i32_w]
   rfl
  refine take_ (i := 1) (N := some 41) (v := ?_) (a' := ?_) (bs 3 5) rfl rfl (by kernel_rfl) (fun _ _ _ h => h) (Or.inl ⟨by rfl, ?_⟩) hHeld ?_ ?_
  rotate_left
  ·rintro w' ⟨s0, s1, s2, s3, s4, s5, s6, s7, s8, s9, s10, s11, s12, s13, s14, s15, s16, s17⟩
   go_simp
   with_reducible rfl
  rotate_left
  ·simp only [pA, pS, pZ, pK, i64_w, i32_w]
   rfl
  refine one_ (i := 2) (N := some 42) (bs 7 5) rfl rfl (by kernel_rfl) (by decide) (fun K hK => ?_)
  refine goes_ Try.func36 (by kernel_rfl) rfl #[.agg #[.int .i64 a1_0, .int .i64 a1_1, .int .i64 a1_2, .int .i64 a1_3, .int .i64 a1_4, .int .i64 a1_5, .int .i64 a1_6, .slice A1_7 l1_7.length c1_7, .slice A1_8 l1_8.length c1_8]] (by rfl) rfl rfl (by (try simp only [List.map_toArray, List.map_cons, List.map_nil]); first | done | rfl | (simp only [List.length_drop, List.length_take]; rfl)) ?_
  with_reducible refine (laws_toTransaction.calls k a1_0 a1_1 a1_2 a1_3 a1_4 a1_5 a1_6 _ _ l1_7 _ _ l1_8 t361 t362 t363 t364 t365 t366 t367 t368 t371 _ ?side1 ?side2 ?side3 ?side4 A29.out).mono ?_
  (case side1 => exact CB HR1_7.out HB.out)
  (case side2 => exact HC1_7.out)
  (case side3 => exact CB HR1_8.out HB.out)
  (case side4 => exact HC1_8.out)
  rintro e w69 ⟨v369, v372, rfl, ho0, ho1, hb⟩
  refine ⟨_, rfl, ?_⟩
  replace HO323 := AM_ (Kd.S_below (ST HO323.out) hb)
  replace HO340 := AM_ (Kd.S_below (ST HO340.out) hb)
  replace HO359 := AM_ (Kd.S_below (ST HO359.out) hb)
  have HO370 := AM_ (Kd.R_lower (Kd.R_new' (Kd.R_new' ho0 (Kd.R_lt (RT HO333.out))) (Kd.R_lt (RT HO351.out))) (below_size (BT HB.out)))
  replace HO333 := AM_ (Kd.R_elder' (RT HO333.out) (Kd.R_base ho0) hb)
  replace HO351 := AM_ (Kd.R_elder' (RT HO351.out) (Kd.R_base ho0) hb)
  have HO373 := AM_ (Kd.R_lower (Kd.R_new' (Kd.R_new' ho1 (Kd.R_lt (RT HO336.out))) (Kd.R_lt (RT HO354.out))) (below_size (BT HB.out)))
  replace HO336 := AM_ (Kd.R_elder' (RT HO336.out) (Kd.R_base ho1) hb)
  replace HO354 := AM_ (Kd.R_elder' (RT HO354.out) (Kd.R_base ho1) hb)
  replace BK317 := AM_ (BB BK317.out hb)
  replace BK318 := AM_ (BB BK318.out hb)
  replace BK341 := AM_ (BB BK341.out hb)
  replace BK355 := AM_ (BB BK355.out hb)
  replace HB := AM_ (below_step (BT HB.out) hb)
  (try clear hb)
  (try clear hb2)
  (try clear hk)
  (try clear hi)
  (try clear ho0)
  (try clear ho1)
  obtain ⟨Ao70, co70, eo70⟩ := Kd.R_slice HO370.out
  (first | subst eo70 | (injection eo70 with f1_ f2_ f3_; have f4_ := f1_.symm; have f5_ := f3_.symm; clear f1_ f2_ f3_; subst f4_; subst f5_))
  obtain ⟨Ao71, co71, eo71⟩ := Kd.R_slice HO373.out
  (first | subst eo71 | (injection eo71 with f1_ f2_ f3_; have f4_ := f1_.symm; have f5_ := f3_.symm; clear f1_ f2_ f3_; subst f4_; subst f5_))
  refine hK.out _ _ ⟨bc BK355.out 0, bc BK355.out 1, bc BK355.out 2, bc BK355.out 3, bc BK355.out 4, bc BK355.out 5, bc BK355.out 6, bc BK355.out 7, bc BK355.out 8, bc BK318.out 0, bc BK318.out 1, bc BK318.out 2, bc BK318.out 3, bc BK318.out 4, bc BK318.out 5, bc BK318.out 6, bc BK318.out 7, bc BK318.out 8⟩ (fun hHeld => ?_)
  clear hK K
  refine norm_ (a' := ?_) ?_ ?_
  rotate_left
  ·show Act.put _ (some 42) _ = _
   simp only [pA, pS, pZ, pK, i64_w, i32_w]
   rfl
  refine one_ (i := 3) (N := some 43) (bs 15 5) rfl rfl (by kernel_rfl) (by decide) (fun K hK => ?_)
  refine goes_ Try.func39 (by kernel_rfl) rfl #[.agg #[.int .i64 t342, .int .i64 t343, .int .i64 t344, .int .i64 t345, .int .i64 t346, .int .i64 t347, .int .i64 t348, .slice Ao60 t349.length co60, .slice Ao61 t352.length co61], .agg #[.int .i64 t361, .int .i64 t362, .int .i64 t363, .int .i64 t364, .int .i64 t365, .int .i64 t366, .int .i64 t367, .slice Ao70 t368.length co70, .slice Ao71 t371.length co71]] (by rfl) rfl rfl (by (try simp only [List.map_toArray, List.map_cons, List.map_nil]); first | done | rfl | (simp only [List.length_drop, List.length_take]; rfl)) ?_
  with_reducible refine (laws_eqTransaction.calls k t342 t343 t344 t345 t346 t347 t348 _ _ t349 _ _ t352 t361 t362 t363 t364 t365 t366 t367 _ _ t368 _ _ t371 true _ ?side1 ?side2 ?side3 ?side4 ?side5 ?side6 ?side7 ?side8 A30.out).mono ?_
  (case side1 => exact Kd.C_below (Kd.R_reads' HO351.out).2.2 (BL (Below.refl _ _) rfl rfl rfl rfl))
  (case side2 => exact (Kd.R_reads' HO351.out).2.1)
  (case side3 => exact Kd.C_below (Kd.R_reads' HO354.out).2.2 (BL (Below.refl _ _) rfl rfl rfl rfl))
  (case side4 => exact (Kd.R_reads' HO354.out).2.1)
  (case side5 => exact Kd.C_below (Kd.R_reads' HO370.out).2.2 (BL (Below.refl _ _) rfl rfl rfl rfl))
  (case side6 => exact (Kd.R_reads' HO370.out).2.1)
  (case side7 => exact Kd.C_below (Kd.R_reads' HO373.out).2.2 (BL (Below.refl _ _) rfl rfl rfl rfl))
  (case side8 => exact (Kd.R_reads' HO373.out).2.1)
  rintro e w72 ⟨rfl, hb⟩
  refine ⟨_, rfl, ?_⟩
  replace HO323 := AM_ (Kd.S_below (ST HO323.out) hb)
  replace HO333 := AM_ (Kd.R_below (RT HO333.out) hb)
  replace HO336 := AM_ (Kd.R_below (RT HO336.out) hb)
  replace HO340 := AM_ (Kd.S_below (ST HO340.out) hb)
  replace HO351 := AM_ (Kd.R_below (RT HO351.out) hb)
  replace HO354 := AM_ (Kd.R_below (RT HO354.out) hb)
  replace HO359 := AM_ (Kd.S_below (ST HO359.out) hb)
  replace HO370 := AM_ (Kd.R_below (RT HO370.out) hb)
  replace HO373 := AM_ (Kd.R_below (RT HO373.out) hb)
  replace BK317 := AM_ (BB BK317.out hb)
  replace BK318 := AM_ (BB BK318.out hb)
  replace BK341 := AM_ (BB BK341.out hb)
  replace BK355 := AM_ (BB BK355.out hb)
  replace HB := AM_ (below_step (BT HB.out) hb)
  (try clear hb)
  (try clear hb2)
  (try clear hk)
  (try clear hi)
  refine hK.out _ _ ⟨bc BK355.out 0, bc BK355.out 1, bc BK355.out 2, bc BK355.out 3, bc BK355.out 4, bc BK355.out 5, bc BK355.out 6, bc BK355.out 7, bc BK355.out 8, bc BK318.out 0, bc BK318.out 1, bc BK318.out 2, bc BK318.out 3, bc BK318.out 4, bc BK318.out 5, bc BK318.out 6, bc BK318.out 7, bc BK318.out 8⟩ (fun hHeld => ?_)
  clear hK K
  refine norm_ (a' := ?_) ?_ ?_
  rotate_left
  ·show Act.put _ (some 43) _ = _
   simp only [pA, pS, pZ, pK, i64_w, i32_w]
   rfl
  refine pure_ (i := 4) (N := some 44) (v := ?_) (a' := ?_) (bs 31 5) rfl rfl (by kernel_rfl) (fun _ _ _ h => h) (Or.inl ⟨by rfl, ?_⟩) ?_ ?_
  rotate_left
  ·intro w'
   go_simp
   with_reducible rfl
  rotate_left
  ·simp only [pA, pS, pZ, pK, i64_w, i32_w]
   rfl
  refine done_ (by kernel_rfl) ?_
  try go_wp2
  go_ret
  exact QT (BT HB.out)
 replace c31 := Bool.eq_false_iff.mpr c31
 subst c31
 have H1 : (some false) = some r := by rw [if_neg (show ¬ (false = true) by decide)] at H; exact H
 clear H
 have H := H1
 clear H1
 obtain rfl := Option.some.inj H
 go_enter Try.func5, Try.ntmps5
 try go_wp2_with (first | ((with_reducible refine gate_dst (N := 2) rfl ?_); refine box_event ?hg (N := 2) ?hd (cs := #[.slice A0_0 l0_0.length c0_0]) (t := 39) ?hr ?_; (case hd => rfl); (case hg => rfl); (case hr => first | (go_simp; done) | (go_simp; rfl)); intro gb317 hg w73 hbox hb; have BK317 := AM_ (hbox); have GW317 := AM_ ((GS HB.out hg)); have GE317 := AM_ ((GS HB.out hg)); replace HB := AM_ (below_step (BT HB.out) hb); clear hb hbox hg) | ((with_reducible refine gate_dst (N := 3) rfl ?_); refine box_event ?hg (N := 3) ?hd (cs := #[.int .i64 a1_0, .int .i64 a1_1, .int .i64 a1_2, .int .i64 a1_3, .int .i64 a1_4, .int .i64 a1_5, .int .i64 a1_6, .slice A1_7 l1_7.length c1_7, .slice A1_8 l1_8.length c1_8]) (t := 60) ?hr ?_; (case hd => rfl); (case hg => rfl); (case hr => first | (go_simp; done) | (go_simp; rfl)); intro gb318 hg w74 hbox hb; have BK318 := AM_ (hbox); have GW318 := AM_ ((GS HB.out hg)); have GE318 := AM_ ((GS HB.out hg)); replace HB := AM_ (below_step (BT HB.out) hb); have NB317_318 := AM_ ((NL BK317.out hg)); have NB318_317 := AM_ ((NG BK317.out hg)); replace BK317 := AM_ (BB BK317.out hb); clear hb hbox hg; have hnb75 := NB317_318.out; have hnc75 := NB318_317.out; obtain ⟨hcz76_0, hfz76_0⟩ := bk1 BK317.out) | ((with_reducible refine gate_callee (f := 32) rfl ?_); refine goesL_ (some 12) rfl rfl Try.func32 (by kernel_rfl) rfl #[.agg #[.slice A0_0 l0_0.length c0_0], .int .i64 1048576] rfl (by (try simp only [List.map_toArray, List.map_cons, List.map_nil]); first | done | rfl | (simp only [List.length_drop, List.length_take]; rfl)) ?_; (with_reducible refine (laws_szStore.calls k _ _ l0_0 1048576 t319 _ ?side1 ?side2 A3.out).mono ?_); (case side1 => exact CB HR0_0.out HB.out); (case side2 => exact HC0_0.out); rintro e w77 ⟨rfl, hb⟩; refine ⟨_, rfl, ?_⟩; replace BK317 := AM_ (BB BK317.out hb); replace BK318 := AM_ (BB BK318.out hb); replace HB := AM_ (below_step (BT HB.out) hb); (try clear hb); (try clear hb2); (try clear hk); (try clear hi); obtain ⟨hcz78_0, hcz78_1, hcz78_2, hcz78_3, hcz78_4, hcz78_5, hcz78_6, hcz78_7, hcz78_8, hfz78_0, hfz78_1, hfz78_2, hfz78_3, hfz78_4, hfz78_5, hfz78_6, hfz78_7, hfz78_8⟩ := bk9 BK318.out) | ((with_reducible refine gate_callee (f := 33) rfl ?_); refine goesL_ (some 17) rfl rfl Try.func33 (by kernel_rfl) rfl #[.agg #[.int .i64 a1_0, .int .i64 a1_1, .int .i64 a1_2, .int .i64 a1_3, .int .i64 a1_4, .int .i64 a1_5, .int .i64 a1_6, .slice A1_7 l1_7.length c1_7, .slice A1_8 l1_8.length c1_8], .int .i64 t319] rfl (by (try simp only [List.map_toArray, List.map_cons, List.map_nil]); first | done | rfl | (simp only [List.length_drop, List.length_take]; rfl)) ?_; (with_reducible refine (laws_szTransaction.calls a1_0 a1_1 a1_2 a1_3 a1_4 a1_5 a1_6 _ _ l1_7 _ _ l1_8 t319 t320 _ ?side1 ?side2 ?side3 ?side4 A10.out).mono ?_); (case side1 => exact CB HR1_7.out HB.out); (case side2 => exact HC1_7.out); (case side3 => exact CB HR1_8.out HB.out); (case side4 => exact HC1_8.out); rintro e w79 ⟨rfl, hb⟩; refine ⟨_, rfl, ?_⟩; replace BK317 := AM_ (BB BK317.out hb); replace BK318 := AM_ (BB BK318.out hb); replace HB := AM_ (below_step (BT HB.out) hb); (try clear hb); (try clear hb2); (try clear hk); (try clear hi)))
 replace BK317 := AM_ (blk_drew BK317.out)
 replace BK318 := AM_ (blk_drew BK318.out)
 replace HB := AM_ (below_drew1 HB.out)
 refine start_ (n := 6) (S := fun w' => w'.cell? ⟨gb317, 0, none⟩ = some (.slice A0_0 l0_0.length c0_0) ∧ w'.cell? ⟨gb318, 0, none⟩ = some (.int .i64 a1_0) ∧ w'.cell? ⟨gb318, 1, none⟩ = some (.int .i64 a1_1) ∧ w'.cell? ⟨gb318, 2, none⟩ = some (.int .i64 a1_2) ∧ w'.cell? ⟨gb318, 3, none⟩ = some (.int .i64 a1_3) ∧ w'.cell? ⟨gb318, 4, none⟩ = some (.int .i64 a1_4) ∧ w'.cell? ⟨gb318, 5, none⟩ = some (.int .i64 a1_5) ∧ w'.cell? ⟨gb318, 6, none⟩ = some (.int .i64 a1_6) ∧ w'.cell? ⟨gb318, 7, none⟩ = some (.slice A1_7 l1_7.length c1_7) ∧ w'.cell? ⟨gb318, 8, none⟩ = some (.slice A1_8 l1_8.length c1_8)) (ds := []) (bs 0 6) (by kernel_rfl) rfl rfl ⟨bc BK317.out 0, bc BK318.out 0, bc BK318.out 1, bc BK318.out 2, bc BK318.out 3, bc BK318.out 4, bc BK318.out 5, bc BK318.out 6, bc BK318.out 7, bc BK318.out 8⟩ (fun hHeld => ?_)
 generalize w79.drew = w80 at BK317 BK318 HB hHeld ⊢
 refine take_ (i := 0) (N := some 20) (v := ?_) (a' := ?_) (bs 1 6) rfl rfl (by kernel_rfl) (fun _ _ _ h => h) (Or.inl ⟨by rfl, ?_⟩) hHeld ?_ ?_
 rotate_left
 ·rintro w' ⟨s0, s1, s2, s3, s4, s5, s6, s7, s8, s9⟩
  go_simp
  with_reducible rfl
 rotate_left
 ·simp only [pA, pS, pZ, pK, i64_w, i32_w]
  rfl
 refine take_ (i := 2) (N := some 22) (v := ?_) (a' := ?_) (bs 5 6) rfl rfl (by kernel_rfl) (fun _ _ _ h => h) (Or.inl ⟨by rfl, ?_⟩) hHeld ?_ ?_
 rotate_left
 ·rintro w' ⟨s0, s1, s2, s3, s4, s5, s6, s7, s8, s9⟩
  go_simp
  with_reducible rfl
 rotate_left
 ·simp only [pA, pS, pZ, pK, i64_w, i32_w]
  rfl
 refine one_ (i := 1) (N := some 21) (bs 7 6) rfl rfl (by kernel_rfl) (by decide) (fun K hK => ?_)
 refine goes_ Try.func35 (by kernel_rfl) rfl #[.agg #[.slice A0_0 l0_0.length c0_0]] (by rfl) rfl rfl (by (try simp only [List.map_toArray, List.map_cons, List.map_nil]); first | done | rfl | (simp only [List.length_drop, List.length_take]; rfl)) ?_
 with_reducible refine (laws_toStore.calls k _ _ l0_0 t321 _ ?side1 ?side2 A19.out).mono ?_
 (case side1 => exact CB HR0_0.out HB.out)
 (case side2 => exact HC0_0.out)
 rintro e w81 ⟨v322, rfl, ho0, hb⟩
 refine ⟨_, rfl, ?_⟩
 have HO323 := AM_ (Kd.S_lower ho0 (below_size (BT HB.out)))
 replace BK317 := AM_ (BB BK317.out hb)
 replace BK318 := AM_ (BB BK318.out hb)
 replace HB := AM_ (below_step (BT HB.out) hb)
 (try clear hb)
 (try clear hb2)
 (try clear hk)
 (try clear hi)
 (try clear ho0)
 refine hK.out _ _ ⟨bc BK317.out 0, bc BK318.out 0, bc BK318.out 1, bc BK318.out 2, bc BK318.out 3, bc BK318.out 4, bc BK318.out 5, bc BK318.out 6, bc BK318.out 7, bc BK318.out 8⟩ (fun hHeld => ?_)
 clear hK K
 refine norm_ (a' := ?_) ?_ ?_
 rotate_left
 ·show Act.put _ (some 21) _ = _
  simp only [pA, pS, pZ, pK, i64_w, i32_w]
  rfl
 refine one_ (i := 3) (N := some 23) (bs 15 6) rfl rfl (by kernel_rfl) (by decide) (fun K hK => ?_)
 refine goes_ Try.func36 (by kernel_rfl) rfl #[.agg #[.int .i64 a1_0, .int .i64 a1_1, .int .i64 a1_2, .int .i64 a1_3, .int .i64 a1_4, .int .i64 a1_5, .int .i64 a1_6, .slice A1_7 l1_7.length c1_7, .slice A1_8 l1_8.length c1_8]] (by rfl) rfl rfl (by (try simp only [List.map_toArray, List.map_cons, List.map_nil]); first | done | rfl | (simp only [List.length_drop, List.length_take]; rfl)) ?_
 with_reducible refine (laws_toTransaction.calls k a1_0 a1_1 a1_2 a1_3 a1_4 a1_5 a1_6 _ _ l1_7 _ _ l1_8 t324 t325 t326 t327 t328 t329 t330 t331 t334 _ ?side1 ?side2 ?side3 ?side4 A20.out).mono ?_
 (case side1 => exact CB HR1_7.out HB.out)
 (case side2 => exact HC1_7.out)
 (case side3 => exact CB HR1_8.out HB.out)
 (case side4 => exact HC1_8.out)
 rintro e w82 ⟨v332, v335, rfl, ho0, ho1, hb⟩
 refine ⟨_, rfl, ?_⟩
 replace HO323 := AM_ (Kd.S_below (ST HO323.out) hb)
 have HO333 := AM_ (Kd.R_lower ho0 (below_size (BT HB.out)))
 have HO336 := AM_ (Kd.R_lower ho1 (below_size (BT HB.out)))
 replace BK317 := AM_ (BB BK317.out hb)
 replace BK318 := AM_ (BB BK318.out hb)
 replace HB := AM_ (below_step (BT HB.out) hb)
 (try clear hb)
 (try clear hb2)
 (try clear hk)
 (try clear hi)
 (try clear ho0)
 (try clear ho1)
 obtain ⟨Ao83, co83, eo83⟩ := Kd.S_slice HO323.out
 (first | subst eo83 | (injection eo83 with f1_ f2_ f3_; have f4_ := f1_.symm; have f5_ := f3_.symm; clear f1_ f2_ f3_; subst f4_; subst f5_))
 obtain ⟨Ao84, co84, eo84⟩ := Kd.R_slice HO333.out
 (first | subst eo84 | (injection eo84 with f1_ f2_ f3_; have f4_ := f1_.symm; have f5_ := f3_.symm; clear f1_ f2_ f3_; subst f4_; subst f5_))
 obtain ⟨Ao85, co85, eo85⟩ := Kd.R_slice HO336.out
 (first | subst eo85 | (injection eo85 with f1_ f2_ f3_; have f4_ := f1_.symm; have f5_ := f3_.symm; clear f1_ f2_ f3_; subst f4_; subst f5_))
 refine hK.out _ _ ⟨bc BK317.out 0, bc BK318.out 0, bc BK318.out 1, bc BK318.out 2, bc BK318.out 3, bc BK318.out 4, bc BK318.out 5, bc BK318.out 6, bc BK318.out 7, bc BK318.out 8⟩ (fun hHeld => ?_)
 clear hK K
 refine norm_ (a' := ?_) ?_ ?_
 rotate_left
 ·show Act.put _ (some 23) _ = _
  simp only [pA, pS, pZ, pK, i64_w, i32_w]
  rfl
 refine one_ (i := 4) (N := some 24) (bs 31 6) rfl rfl (by kernel_rfl) (by decide) (fun K hK => ?_)
 refine goes_ Try.func34 (by kernel_rfl) rfl #[.agg #[.slice Ao83 t321.length co83], .agg #[.int .i64 t324, .int .i64 t325, .int .i64 t326, .int .i64 t327, .int .i64 t328, .int .i64 t329, .int .i64 t330, .slice Ao84 t331.length co84, .slice Ao85 t334.length co85]] (by rfl) rfl rfl (by (try simp only [List.map_toArray, List.map_cons, List.map_nil]); first | done | rfl | (simp only [List.length_drop, List.length_take]; rfl)) ?_
 with_reducible refine (spec_CommitCode.calls k _ _ t321 t324 t325 t326 t327 t328 t329 t330 _ _ t331 _ _ t334 t337 _ ?side1 ?side2 ?side3 ?side4 ?side5 ?side6 A21.out).mono ?_
 (case side1 => exact Kd.C_below (Kd.S_reads' HO323.out).2.2 (BL (Below.refl _ _) rfl rfl rfl rfl))
 (case side2 => exact (Kd.S_reads' HO323.out).2.1)
 (case side3 => exact Kd.C_below (Kd.R_reads' HO333.out).2.2 (BL (Below.refl _ _) rfl rfl rfl rfl))
 (case side4 => exact (Kd.R_reads' HO333.out).2.1)
 (case side5 => exact Kd.C_below (Kd.R_reads' HO336.out).2.2 (BL (Below.refl _ _) rfl rfl rfl rfl))
 (case side6 => exact (Kd.R_reads' HO336.out).2.1)
 rintro e w86 ⟨rfl, hb⟩
 refine ⟨_, rfl, ?_⟩
 replace HO323 := AM_ (Kd.S_below (ST HO323.out) hb)
 replace HO333 := AM_ (Kd.R_below (RT HO333.out) hb)
 replace HO336 := AM_ (Kd.R_below (RT HO336.out) hb)
 replace BK317 := AM_ (BB BK317.out hb)
 replace BK318 := AM_ (BB BK318.out hb)
 replace HB := AM_ (below_step (BT HB.out) hb)
 (try clear hb)
 (try clear hb2)
 (try clear hk)
 (try clear hi)
 refine hK.out _ _ ⟨bc BK317.out 0, bc BK318.out 0, bc BK318.out 1, bc BK318.out 2, bc BK318.out 3, bc BK318.out 4, bc BK318.out 5, bc BK318.out 6, bc BK318.out 7, bc BK318.out 8⟩ (fun hHeld => ?_)
 clear hK K
 refine norm_ (a' := ?_) ?_ ?_
 rotate_left
 ·show Act.put _ (some 24) _ = _
  simp only [pA, pS, pZ, pK, i64_w, i32_w]
  rfl
 refine pure_ (i := 5) (N := some 6) (v := ?_) (a' := ?_) (bs 63 6) rfl rfl (by kernel_rfl) (fun _ _ _ h => h) (Or.inl ⟨by rfl, ?_⟩) ?_ ?_
 rotate_left
 ·intro w'
  go_simp
  with_reducible rfl
 rotate_left
 ·simp only [pA, pS, pZ, pK, i64_w, i32_w]
  rfl
 refine done_ (by kernel_rfl) ?_
 obtain ⟨hcz87_0, hfz87_0⟩ := bk1 BK317.out
 try go_wp2_with (first | ((with_reducible refine gate_callee (f := 35) rfl ?_); refine goesL_ (some 26) rfl rfl Try.func35 (by kernel_rfl) rfl #[.agg #[.slice A0_0 l0_0.length c0_0]] rfl (by (try simp only [List.map_toArray, List.map_cons, List.map_nil]); first | done | rfl | (simp only [List.length_drop, List.length_take]; rfl)) ?_; (with_reducible refine (laws_toStore.calls k _ _ l0_0 t338 _ ?side1 ?side2 A22.out).mono ?_); (case side1 => exact CB HR0_0.out HB.out); (case side2 => exact HC0_0.out); rintro e w88 ⟨v339, rfl, ho0, hb⟩; refine ⟨_, rfl, ?_⟩; replace HO333 := AM_ (Kd.R_below (RT HO333.out) hb); replace HO336 := AM_ (Kd.R_below (RT HO336.out) hb); have HO340 := AM_ (Kd.S_lower (Kd.S_new' ho0 (Kd.S_lt (ST HO323.out))) (below_size (BT HB.out))); replace HO323 := AM_ (Kd.S_elder' (ST HO323.out) (Kd.S_base ho0) hb); replace BK317 := AM_ (BB BK317.out hb); replace BK318 := AM_ (BB BK318.out hb); replace HB := AM_ (below_step (BT HB.out) hb); (try clear hb); (try clear hb2); (try clear hk); (try clear hi); (try clear ho0)) | ((with_reducible refine gate_dst (N := 7) rfl ?_); refine box_event ?hg (N := 7) ?hd (cs := #[.slice none 0 0]) (t := 49) ?hr ?_; (case hd => rfl); (case hg => rfl); (case hr => first | (go_simp; done) | (go_simp; rfl)); intro gb341 hg w89 hbox hb; replace HO323 := AM_ (Kd.S_below (ST HO323.out) hb); replace HO333 := AM_ (Kd.R_below (RT HO333.out) hb); replace HO336 := AM_ (Kd.R_below (RT HO336.out) hb); replace HO340 := AM_ (Kd.S_below (ST HO340.out) hb); have BK341 := AM_ (hbox); have GW341 := AM_ ((GS HB.out hg)); have GE341 := AM_ ((GS HB.out hg)); replace HB := AM_ (below_step (BT HB.out) hb); have NB317_341 := AM_ ((NL BK317.out hg)); have NB341_317 := AM_ ((NG BK317.out hg)); replace BK317 := AM_ (BB BK317.out hb); have NB318_341 := AM_ ((NL BK318.out hg)); have NB341_318 := AM_ ((NG BK318.out hg)); replace BK318 := AM_ (BB BK318.out hb); clear hb hbox hg; obtain ⟨Ao90, co90, eo90⟩ := Kd.S_slice HO340.out; subst eo90; have hnb91 := NB341_317.out; have hnc91 := NB317_341.out; have hnb92 := NB341_318.out; have hnc92 := NB318_341.out; obtain ⟨hcz93_0, hfz93_0⟩ := bk1 BK341.out; obtain ⟨hcz94_0, hcz94_1, hcz94_2, hcz94_3, hcz94_4, hcz94_5, hcz94_6, hcz94_7, hcz94_8, hfz94_0, hfz94_1, hfz94_2, hfz94_3, hfz94_4, hfz94_5, hfz94_6, hfz94_7, hfz94_8⟩ := bk9 BK318.out) | ((with_reducible refine gate_callee (f := 36) rfl ?_); refine goesL_ (some 28) rfl rfl Try.func36 (by kernel_rfl) rfl #[.agg #[.int .i64 a1_0, .int .i64 a1_1, .int .i64 a1_2, .int .i64 a1_3, .int .i64 a1_4, .int .i64 a1_5, .int .i64 a1_6, .slice A1_7 l1_7.length c1_7, .slice A1_8 l1_8.length c1_8]] rfl (by (try simp only [List.map_toArray, List.map_cons, List.map_nil]); first | done | rfl | (simp only [List.length_drop, List.length_take]; rfl)) ?_; (with_reducible refine (laws_toTransaction.calls k a1_0 a1_1 a1_2 a1_3 a1_4 a1_5 a1_6 _ _ l1_7 _ _ l1_8 t342 t343 t344 t345 t346 t347 t348 t349 t352 _ ?side1 ?side2 ?side3 ?side4 A23.out).mono ?_); (case side1 => exact Kd.C_below HR1_7.out (BT HB.out)); (case side2 => exact HC1_7.out); (case side3 => exact Kd.C_below HR1_8.out (BT HB.out)); (case side4 => exact HC1_8.out); rintro e w95 ⟨v350, v353, rfl, ho0, ho1, hb⟩; refine ⟨_, rfl, ?_⟩; replace HO323 := AM_ (Kd.S_below (SF HO323.out BK341.out) hb); replace HO340 := AM_ (Kd.S_below (SF HO340.out BK341.out) hb); have HO351 := AM_ (Kd.R_lower (Kd.R_new' ho0 (Kd.R_lt (RF HO333.out BK341.out))) (below_size (BT HB.out))); replace HO333 := AM_ (Kd.R_elder' (RF HO333.out BK341.out) (Kd.R_base ho0) hb); have HO354 := AM_ (Kd.R_lower (Kd.R_new' ho1 (Kd.R_lt (RF HO336.out BK341.out))) (below_size (BT HB.out))); replace HO336 := AM_ (Kd.R_elder' (RF HO336.out BK341.out) (Kd.R_base ho1) hb); replace BK317 := AM_ (blk_below (g := gb317) (o := .cells #[.slice A0_0 l0_0.length c0_0] 39 (0, 0)) (by (with_reducible repeat (first | refine blk_drewN ?_ _ | refine blk_drew ?_ | refine blk_alloc ?_ _)); refine blk_far ?_ NB317_341.out _; (with_reducible repeat (first | refine blk_drewN ?_ _ | refine blk_drew ?_ | refine blk_alloc ?_ _)); exact BK317.out) hb); replace BK318 := AM_ (blk_below (g := gb318) (o := .cells #[.int .i64 a1_0, .int .i64 a1_1, .int .i64 a1_2, .int .i64 a1_3, .int .i64 a1_4, .int .i64 a1_5, .int .i64 a1_6, .slice A1_7 l1_7.length c1_7, .slice A1_8 l1_8.length c1_8] 60 (0, 0)) (by (with_reducible repeat (first | refine blk_drewN ?_ _ | refine blk_drew ?_ | refine blk_alloc ?_ _)); refine blk_far ?_ NB318_341.out _; (with_reducible repeat (first | refine blk_drewN ?_ _ | refine blk_drew ?_ | refine blk_alloc ?_ _)); exact BK318.out) hb); replace BK341 := AM_ (blk_below (g := gb341) (o := .cells #[.slice Ao90 t338.length co90] 49 (0, 0)) (by (with_reducible repeat (first | refine blk_drewN ?_ _ | refine blk_drew ?_ | refine blk_alloc ?_ _)); refine blk_put (cs := #[.slice none 0 0]) ?_ 0 _ rfl; (with_reducible repeat (first | refine blk_drewN ?_ _ | refine blk_drew ?_ | refine blk_alloc ?_ _)); exact BK341.out) hb); replace HB := AM_ (below_step (BT HB.out) hb); (try clear hb); (try clear hb2); (try clear hk); (try clear hi); (try clear ho0); (try clear ho1)) | ((with_reducible refine gate_dst (N := 8) rfl ?_); refine box_event ?hg (N := 8) ?hd (cs := #[.int .i64 0, .int .i64 0, .int .i64 0, .int .i64 0, .int .i64 0, .int .i64 0, .int .i64 0, .slice none 0 0, .slice none 0 0]) (t := 68) ?hr ?_; (case hd => rfl); (case hg => rfl); (case hr => first | (go_simp; done) | (go_simp; rfl)); intro gb355 hg w96 hbox hb; replace HO323 := AM_ (Kd.S_below (ST HO323.out) hb); replace HO333 := AM_ (Kd.R_below (RT HO333.out) hb); replace HO336 := AM_ (Kd.R_below (RT HO336.out) hb); replace HO340 := AM_ (Kd.S_below (ST HO340.out) hb); replace HO351 := AM_ (Kd.R_below (RT HO351.out) hb); replace HO354 := AM_ (Kd.R_below (RT HO354.out) hb); have BK355 := AM_ (hbox); have GW355 := AM_ ((GS HB.out hg)); have GE355 := AM_ ((GS HB.out hg)); replace HB := AM_ (below_step (BT HB.out) hb); have NB317_355 := AM_ ((NL BK317.out hg)); have NB355_317 := AM_ ((NG BK317.out hg)); replace BK317 := AM_ (BB BK317.out hb); have NB318_355 := AM_ ((NL BK318.out hg)); have NB355_318 := AM_ ((NG BK318.out hg)); replace BK318 := AM_ (BB BK318.out hb); have NB341_355 := AM_ ((NL BK341.out hg)); have NB355_341 := AM_ ((NG BK341.out hg)); replace BK341 := AM_ (BB BK341.out hb); clear hb hbox hg; have hnb97 := NB355_317.out; have hnc97 := NB317_355.out; have hnb98 := NB355_318.out; have hnc98 := NB318_355.out; have hnb99 := NB355_341.out; have hnc99 := NB341_355.out; obtain ⟨hcz100_0, hcz100_1, hcz100_2, hcz100_3, hcz100_4, hcz100_5, hcz100_6, hcz100_7, hcz100_8, hfz100_0, hfz100_1, hfz100_2, hfz100_3, hfz100_4, hfz100_5, hfz100_6, hfz100_7, hfz100_8⟩ := bk9 BK355.out; obtain ⟨Ao101, co101, eo101⟩ := Kd.R_slice HO351.out; subst eo101; obtain ⟨Ao102, co102, eo102⟩ := Kd.R_slice HO354.out; subst eo102; obtain ⟨hcz103_0, hfz103_0⟩ := bk1 BK341.out) | ((with_reducible refine gate_callee (f := 37) rfl ?_); refine goesL_ (some 31) rfl rfl Try.func37 (by kernel_rfl) rfl #[.agg #[.slice Ao90 t338.length co90], .agg #[.int .i64 t342, .int .i64 t343, .int .i64 t344, .int .i64 t345, .int .i64 t346, .int .i64 t347, .int .i64 t348, .slice Ao101 t349.length co101, .slice Ao102 t352.length co102]] rfl (by (try simp only [List.map_toArray, List.map_cons, List.map_nil]); first | done | rfl | (simp only [List.length_drop, List.length_take]; rfl)) ?_; (with_reducible refine (impl_CommitCode.calls k _ _ t338 t342 t343 t344 t345 t346 t347 t348 _ _ t349 _ _ t352 t356 _ ?side1 ?side2 ?side3 ?side4 ?side5 ?side6 A24.out).mono ?_); (case side1 => exact CG HO340.out BK355.out); (case side2 => exact (Kd.S_reads' HO340.out).2.1); (case side3 => exact CF HO351.out BK355.out); (case side4 => exact (Kd.R_reads' HO351.out).2.1); (case side5 => exact CF HO354.out BK355.out); (case side6 => exact (Kd.R_reads' HO354.out).2.1); rintro e w104 ⟨rfl, hb⟩; refine ⟨_, rfl, ?_⟩; replace HO323 := AM_ (Kd.S_below (SF HO323.out BK355.out) hb); replace HO333 := AM_ (Kd.R_below (RF HO333.out BK355.out) hb); replace HO336 := AM_ (Kd.R_below (RF HO336.out BK355.out) hb); replace HO340 := AM_ (Kd.S_below (SF HO340.out BK355.out) hb); replace HO351 := AM_ (Kd.R_below (RF HO351.out BK355.out) hb); replace HO354 := AM_ (Kd.R_below (RF HO354.out BK355.out) hb); replace BK317 := AM_ (blk_below (g := gb317) (o := .cells #[.slice A0_0 l0_0.length c0_0] 39 (0, 0)) (by (with_reducible repeat (first | refine blk_drewN ?_ _ | refine blk_drew ?_ | refine blk_alloc ?_ _)); refine blk_far ?_ NB317_355.out _; (with_reducible repeat (first | refine blk_drewN ?_ _ | refine blk_drew ?_ | refine blk_alloc ?_ _)); refine blk_far ?_ NB317_355.out _; (with_reducible repeat (first | refine blk_drewN ?_ _ | refine blk_drew ?_ | refine blk_alloc ?_ _)); refine blk_far ?_ NB317_355.out _; (with_reducible repeat (first | refine blk_drewN ?_ _ | refine blk_drew ?_ | refine blk_alloc ?_ _)); refine blk_far ?_ NB317_355.out _; (with_reducible repeat (first | refine blk_drewN ?_ _ | refine blk_drew ?_ | refine blk_alloc ?_ _)); refine blk_far ?_ NB317_355.out _; (with_reducible repeat (first | refine blk_drewN ?_ _ | refine blk_drew ?_ | refine blk_alloc ?_ _)); refine blk_far ?_ NB317_355.out _; (with_reducible repeat (first | refine blk_drewN ?_ _ | refine blk_drew ?_ | refine blk_alloc ?_ _)); refine blk_far ?_ NB317_355.out _; (with_reducible repeat (first | refine blk_drewN ?_ _ | refine blk_drew ?_ | refine blk_alloc ?_ _)); refine blk_far ?_ NB317_355.out _; (with_reducible repeat (first | refine blk_drewN ?_ _ | refine blk_drew ?_ | refine blk_alloc ?_ _)); refine blk_far ?_ NB317_355.out _; (with_reducible repeat (first | refine blk_drewN ?_ _ | refine blk_drew ?_ | refine blk_alloc ?_ _)); exact BK317.out) hb); replace BK318 := AM_ (blk_below (g := gb318) (o := .cells #[.int .i64 a1_0, .int .i64 a1_1, .int .i64 a1_2, .int .i64 a1_3, .int .i64 a1_4, .int .i64 a1_5, .int .i64 a1_6, .slice A1_7 l1_7.length c1_7, .slice A1_8 l1_8.length c1_8] 60 (0, 0)) (by (with_reducible repeat (first | refine blk_drewN ?_ _ | refine blk_drew ?_ | refine blk_alloc ?_ _)); refine blk_far ?_ NB318_355.out _; (with_reducible repeat (first | refine blk_drewN ?_ _ | refine blk_drew ?_ | refine blk_alloc ?_ _)); refine blk_far ?_ NB318_355.out _; (with_reducible repeat (first | refine blk_drewN ?_ _ | refine blk_drew ?_ | refine blk_alloc ?_ _)); refine blk_far ?_ NB318_355.out _; (with_reducible repeat (first | refine blk_drewN ?_ _ | refine blk_drew ?_ | refine blk_alloc ?_ _)); refine blk_far ?_ NB318_355.out _; (with_reducible repeat (first | refine blk_drewN ?_ _ | refine blk_drew ?_ | refine blk_alloc ?_ _)); refine blk_far ?_ NB318_355.out _; (with_reducible repeat (first | refine blk_drewN ?_ _ | refine blk_drew ?_ | refine blk_alloc ?_ _)); refine blk_far ?_ NB318_355.out _; (with_reducible repeat (first | refine blk_drewN ?_ _ | refine blk_drew ?_ | refine blk_alloc ?_ _)); refine blk_far ?_ NB318_355.out _; (with_reducible repeat (first | refine blk_drewN ?_ _ | refine blk_drew ?_ | refine blk_alloc ?_ _)); refine blk_far ?_ NB318_355.out _; (with_reducible repeat (first | refine blk_drewN ?_ _ | refine blk_drew ?_ | refine blk_alloc ?_ _)); refine blk_far ?_ NB318_355.out _; (with_reducible repeat (first | refine blk_drewN ?_ _ | refine blk_drew ?_ | refine blk_alloc ?_ _)); exact BK318.out) hb); replace BK341 := AM_ (blk_below (g := gb341) (o := .cells #[.slice Ao90 t338.length co90] 49 (0, 0)) (by (with_reducible repeat (first | refine blk_drewN ?_ _ | refine blk_drew ?_ | refine blk_alloc ?_ _)); refine blk_far ?_ NB341_355.out _; (with_reducible repeat (first | refine blk_drewN ?_ _ | refine blk_drew ?_ | refine blk_alloc ?_ _)); refine blk_far ?_ NB341_355.out _; (with_reducible repeat (first | refine blk_drewN ?_ _ | refine blk_drew ?_ | refine blk_alloc ?_ _)); refine blk_far ?_ NB341_355.out _; (with_reducible repeat (first | refine blk_drewN ?_ _ | refine blk_drew ?_ | refine blk_alloc ?_ _)); refine blk_far ?_ NB341_355.out _; (with_reducible repeat (first | refine blk_drewN ?_ _ | refine blk_drew ?_ | refine blk_alloc ?_ _)); refine blk_far ?_ NB341_355.out _; (with_reducible repeat (first | refine blk_drewN ?_ _ | refine blk_drew ?_ | refine blk_alloc ?_ _)); refine blk_far ?_ NB341_355.out _; (with_reducible repeat (first | refine blk_drewN ?_ _ | refine blk_drew ?_ | refine blk_alloc ?_ _)); refine blk_far ?_ NB341_355.out _; (with_reducible repeat (first | refine blk_drewN ?_ _ | refine blk_drew ?_ | refine blk_alloc ?_ _)); refine blk_far ?_ NB341_355.out _; (with_reducible repeat (first | refine blk_drewN ?_ _ | refine blk_drew ?_ | refine blk_alloc ?_ _)); refine blk_far ?_ NB341_355.out _; (with_reducible repeat (first | refine blk_drewN ?_ _ | refine blk_drew ?_ | refine blk_alloc ?_ _)); exact BK341.out) hb); replace BK355 := AM_ (blk_below (g := gb355) (o := .cells #[.int .i64 t342, .int .i64 t343, .int .i64 t344, .int .i64 t345, .int .i64 t346, .int .i64 t347, .int .i64 t348, .slice Ao101 t349.length co101, .slice Ao102 t352.length co102] 68 (0, 0)) (by (with_reducible repeat (first | refine blk_drewN ?_ _ | refine blk_drew ?_ | refine blk_alloc ?_ _)); refine blk_put (cs := #[.int .i64 t342, .int .i64 t343, .int .i64 t344, .int .i64 t345, .int .i64 t346, .int .i64 t347, .int .i64 t348, .slice Ao101 t349.length co101, .slice none 0 0]) ?_ 8 _ rfl; (with_reducible repeat (first | refine blk_drewN ?_ _ | refine blk_drew ?_ | refine blk_alloc ?_ _)); refine blk_put (cs := #[.int .i64 t342, .int .i64 t343, .int .i64 t344, .int .i64 t345, .int .i64 t346, .int .i64 t347, .int .i64 t348, .slice none 0 0, .slice none 0 0]) ?_ 7 _ rfl; (with_reducible repeat (first | refine blk_drewN ?_ _ | refine blk_drew ?_ | refine blk_alloc ?_ _)); refine blk_put (cs := #[.int .i64 t342, .int .i64 t343, .int .i64 t344, .int .i64 t345, .int .i64 t346, .int .i64 t347, .int .i64 0, .slice none 0 0, .slice none 0 0]) ?_ 6 _ rfl; (with_reducible repeat (first | refine blk_drewN ?_ _ | refine blk_drew ?_ | refine blk_alloc ?_ _)); refine blk_put (cs := #[.int .i64 t342, .int .i64 t343, .int .i64 t344, .int .i64 t345, .int .i64 t346, .int .i64 0, .int .i64 0, .slice none 0 0, .slice none 0 0]) ?_ 5 _ rfl; (with_reducible repeat (first | refine blk_drewN ?_ _ | refine blk_drew ?_ | refine blk_alloc ?_ _)); refine blk_put (cs := #[.int .i64 t342, .int .i64 t343, .int .i64 t344, .int .i64 t345, .int .i64 0, .int .i64 0, .int .i64 0, .slice none 0 0, .slice none 0 0]) ?_ 4 _ rfl; (with_reducible repeat (first | refine blk_drewN ?_ _ | refine blk_drew ?_ | refine blk_alloc ?_ _)); refine blk_put (cs := #[.int .i64 t342, .int .i64 t343, .int .i64 t344, .int .i64 0, .int .i64 0, .int .i64 0, .int .i64 0, .slice none 0 0, .slice none 0 0]) ?_ 3 _ rfl; (with_reducible repeat (first | refine blk_drewN ?_ _ | refine blk_drew ?_ | refine blk_alloc ?_ _)); refine blk_put (cs := #[.int .i64 t342, .int .i64 t343, .int .i64 0, .int .i64 0, .int .i64 0, .int .i64 0, .int .i64 0, .slice none 0 0, .slice none 0 0]) ?_ 2 _ rfl; (with_reducible repeat (first | refine blk_drewN ?_ _ | refine blk_drew ?_ | refine blk_alloc ?_ _)); refine blk_put (cs := #[.int .i64 t342, .int .i64 0, .int .i64 0, .int .i64 0, .int .i64 0, .int .i64 0, .int .i64 0, .slice none 0 0, .slice none 0 0]) ?_ 1 _ rfl; (with_reducible repeat (first | refine blk_drewN ?_ _ | refine blk_drew ?_ | refine blk_alloc ?_ _)); refine blk_put (cs := #[.int .i64 0, .int .i64 0, .int .i64 0, .int .i64 0, .int .i64 0, .int .i64 0, .int .i64 0, .slice none 0 0, .slice none 0 0]) ?_ 0 _ rfl; (with_reducible repeat (first | refine blk_drewN ?_ _ | refine blk_drew ?_ | refine blk_alloc ?_ _)); exact BK355.out) hb); replace HB := AM_ (below_step (BT HB.out) hb); (try clear hb); (try clear hb2); (try clear hk); (try clear hi)))
 replace HO323 := AM_ (Kd.S_drew HO323.out)
 replace HO333 := AM_ (Kd.R_drew HO333.out)
 replace HO336 := AM_ (Kd.R_drew HO336.out)
 replace HO340 := AM_ (Kd.S_drew HO340.out)
 replace HO351 := AM_ (Kd.R_drew HO351.out)
 replace HO354 := AM_ (Kd.R_drew HO354.out)
 replace BK317 := AM_ (blk_drew BK317.out)
 replace BK318 := AM_ (blk_drew BK318.out)
 replace BK341 := AM_ (blk_drew BK341.out)
 replace BK355 := AM_ (blk_drew BK355.out)
 replace HB := AM_ (below_drew1 HB.out)
 refine start_ (n := 5) (S := fun w' => w'.cell? ⟨gb341, 0, none⟩ = some (.slice Ao90 t338.length co90) ∧ w'.cell? ⟨gb317, 0, none⟩ = some (.slice A0_0 l0_0.length c0_0)) (ds := []) (bs 0 5) (by kernel_rfl) rfl rfl ⟨bc BK341.out 0, bc BK317.out 0⟩ (fun hHeld => ?_)
 generalize w104.drew = w105 at HO323 HO333 HO336 HO340 HO351 HO354 BK317 BK318 BK341 BK355 HB hHeld ⊢
 refine take_ (i := 0) (N := some 35) (v := ?_) (a' := ?_) (bs 1 5) rfl rfl (by kernel_rfl) (fun _ _ _ h => h) (Or.inl ⟨by rfl, ?_⟩) hHeld ?_ ?_
 rotate_left
 ·rintro w' ⟨s0, s1⟩
  go_simp
  with_reducible rfl
 rotate_left
 ·simp only [pA, pS, pZ, pK, i64_w, i32_w]
  rfl
 refine take_ (i := 1) (N := some 36) (v := ?_) (a' := ?_) (bs 3 5) rfl rfl (by kernel_rfl) (fun _ _ _ h => h) (Or.inl ⟨by rfl, ?_⟩) hHeld ?_ ?_
 rotate_left
 ·rintro w' ⟨s0, s1⟩
  go_simp
  with_reducible rfl
 rotate_left
 ·simp only [pA, pS, pZ, pK, i64_w, i32_w]
  rfl
 refine one_ (i := 2) (N := some 37) (bs 7 5) rfl rfl (by kernel_rfl) (by decide) (fun K hK => ?_)
 refine goes_ Try.func35 (by kernel_rfl) rfl #[.agg #[.slice A0_0 l0_0.length c0_0]] (by rfl) rfl rfl (by (try simp only [List.map_toArray, List.map_cons, List.map_nil]); first | done | rfl | (simp only [List.length_drop, List.length_take]; rfl)) ?_
 with_reducible refine (laws_toStore.calls k _ _ l0_0 t357 _ ?side1 ?side2 A26.out).mono ?_
 (case side1 => exact CB HR0_0.out HB.out)
 (case side2 => exact HC0_0.out)
 rintro e w106 ⟨v358, rfl, ho0, hb⟩
 refine ⟨_, rfl, ?_⟩
 replace HO333 := AM_ (Kd.R_below (RT HO333.out) hb)
 replace HO336 := AM_ (Kd.R_below (RT HO336.out) hb)
 replace HO351 := AM_ (Kd.R_below (RT HO351.out) hb)
 replace HO354 := AM_ (Kd.R_below (RT HO354.out) hb)
 have HO359 := AM_ (Kd.S_lower (Kd.S_new' (Kd.S_new' ho0 (Kd.S_lt (ST HO323.out))) (Kd.S_lt (ST HO340.out))) (below_size (BT HB.out)))
 replace HO323 := AM_ (Kd.S_elder' (ST HO323.out) (Kd.S_base ho0) hb)
 replace HO340 := AM_ (Kd.S_elder' (ST HO340.out) (Kd.S_base ho0) hb)
 replace BK317 := AM_ (BB BK317.out hb)
 replace BK318 := AM_ (BB BK318.out hb)
 replace BK341 := AM_ (BB BK341.out hb)
 replace BK355 := AM_ (BB BK355.out hb)
 replace HB := AM_ (below_step (BT HB.out) hb)
 (try clear hb)
 (try clear hb2)
 (try clear hk)
 (try clear hi)
 (try clear ho0)
 obtain ⟨Ao107, co107, eo107⟩ := Kd.S_slice HO359.out
 (first | subst eo107 | (injection eo107 with f1_ f2_ f3_; have f4_ := f1_.symm; have f5_ := f3_.symm; clear f1_ f2_ f3_; subst f4_; subst f5_))
 refine hK.out _ _ ⟨bc BK341.out 0, bc BK317.out 0⟩ (fun hHeld => ?_)
 clear hK K
 refine norm_ (a' := ?_) ?_ ?_
 rotate_left
 ·show Act.put _ (some 37) _ = _
  simp only [pA, pS, pZ, pK, i64_w, i32_w]
  rfl
 refine one_ (i := 3) (N := some 38) (bs 15 5) rfl rfl (by kernel_rfl) (by decide) (fun K hK => ?_)
 refine goes_ Try.func38 (by kernel_rfl) rfl #[.agg #[.slice Ao90 t338.length co90], .agg #[.slice Ao107 t357.length co107]] (by rfl) rfl rfl (by (try simp only [List.map_toArray, List.map_cons, List.map_nil]); first | done | rfl | (simp only [List.length_drop, List.length_take]; rfl)) ?_
 with_reducible refine (laws_eqStore.calls k _ _ t338 _ _ t357 true _ ?side1 ?side2 ?side3 ?side4 A27.out).mono ?_
 (case side1 => exact Kd.C_below (Kd.S_reads' HO340.out).2.2 (BL (Below.refl _ _) rfl rfl rfl rfl))
 (case side2 => exact (Kd.S_reads' HO340.out).2.1)
 (case side3 => exact Kd.C_below (Kd.S_reads' HO359.out).2.2 (BL (Below.refl _ _) rfl rfl rfl rfl))
 (case side4 => exact (Kd.S_reads' HO359.out).2.1)
 rintro e w108 ⟨rfl, hb⟩
 refine ⟨_, rfl, ?_⟩
 replace HO323 := AM_ (Kd.S_below (ST HO323.out) hb)
 replace HO333 := AM_ (Kd.R_below (RT HO333.out) hb)
 replace HO336 := AM_ (Kd.R_below (RT HO336.out) hb)
 replace HO340 := AM_ (Kd.S_below (ST HO340.out) hb)
 replace HO351 := AM_ (Kd.R_below (RT HO351.out) hb)
 replace HO354 := AM_ (Kd.R_below (RT HO354.out) hb)
 replace HO359 := AM_ (Kd.S_below (ST HO359.out) hb)
 replace BK317 := AM_ (BB BK317.out hb)
 replace BK318 := AM_ (BB BK318.out hb)
 replace BK341 := AM_ (BB BK341.out hb)
 replace BK355 := AM_ (BB BK355.out hb)
 replace HB := AM_ (below_step (BT HB.out) hb)
 (try clear hb)
 (try clear hb2)
 (try clear hk)
 (try clear hi)
 refine hK.out _ _ ⟨bc BK341.out 0, bc BK317.out 0⟩ (fun hHeld => ?_)
 clear hK K
 refine norm_ (a' := ?_) ?_ ?_
 rotate_left
 ·show Act.put _ (some 38) _ = _
  simp only [pA, pS, pZ, pK, i64_w, i32_w]
  rfl
 refine pure_ (i := 4) (N := some 39) (v := ?_) (a' := ?_) (bs 31 5) rfl rfl (by kernel_rfl) (fun _ _ _ h => h) (Or.inl ⟨by rfl, ?_⟩) ?_ ?_
 rotate_left
 ·intro w'
  go_simp
  with_reducible rfl
 rotate_left
 ·simp only [pA, pS, pZ, pK, i64_w, i32_w]
  rfl
 refine done_ (by kernel_rfl) ?_
 try go_wp2
 replace HO323 := AM_ (Kd.S_drew HO323.out)
 replace HO333 := AM_ (Kd.R_drew HO333.out)
 replace HO336 := AM_ (Kd.R_drew HO336.out)
 replace HO340 := AM_ (Kd.S_drew HO340.out)
 replace HO351 := AM_ (Kd.R_drew HO351.out)
 replace HO354 := AM_ (Kd.R_drew HO354.out)
 replace HO359 := AM_ (Kd.S_drew HO359.out)
 replace BK317 := AM_ (blk_drew BK317.out)
 replace BK318 := AM_ (blk_drew BK318.out)
 replace BK341 := AM_ (blk_drew BK341.out)
 replace BK355 := AM_ (blk_drew BK355.out)
 replace HB := AM_ (below_drew1 HB.out)
 refine start_ (n := 5) (S := fun w' => w'.cell? ⟨gb355, 0, none⟩ = some (.int .i64 t342) ∧ w'.cell? ⟨gb355, 1, none⟩ = some (.int .i64 t343) ∧ w'.cell? ⟨gb355, 2, none⟩ = some (.int .i64 t344) ∧ w'.cell? ⟨gb355, 3, none⟩ = some (.int .i64 t345) ∧ w'.cell? ⟨gb355, 4, none⟩ = some (.int .i64 t346) ∧ w'.cell? ⟨gb355, 5, none⟩ = some (.int .i64 t347) ∧ w'.cell? ⟨gb355, 6, none⟩ = some (.int .i64 t348) ∧ w'.cell? ⟨gb355, 7, none⟩ = some (.slice Ao101 t349.length co101) ∧ w'.cell? ⟨gb355, 8, none⟩ = some (.slice Ao102 t352.length co102) ∧ w'.cell? ⟨gb318, 0, none⟩ = some (.int .i64 a1_0) ∧ w'.cell? ⟨gb318, 1, none⟩ = some (.int .i64 a1_1) ∧ w'.cell? ⟨gb318, 2, none⟩ = some (.int .i64 a1_2) ∧ w'.cell? ⟨gb318, 3, none⟩ = some (.int .i64 a1_3) ∧ w'.cell? ⟨gb318, 4, none⟩ = some (.int .i64 a1_4) ∧ w'.cell? ⟨gb318, 5, none⟩ = some (.int .i64 a1_5) ∧ w'.cell? ⟨gb318, 6, none⟩ = some (.int .i64 a1_6) ∧ w'.cell? ⟨gb318, 7, none⟩ = some (.slice A1_7 l1_7.length c1_7) ∧ w'.cell? ⟨gb318, 8, none⟩ = some (.slice A1_8 l1_8.length c1_8)) (ds := []) (bs 0 5) (by kernel_rfl) rfl rfl ⟨bc BK355.out 0, bc BK355.out 1, bc BK355.out 2, bc BK355.out 3, bc BK355.out 4, bc BK355.out 5, bc BK355.out 6, bc BK355.out 7, bc BK355.out 8, bc BK318.out 0, bc BK318.out 1, bc BK318.out 2, bc BK318.out 3, bc BK318.out 4, bc BK318.out 5, bc BK318.out 6, bc BK318.out 7, bc BK318.out 8⟩ (fun hHeld => ?_)
 generalize w108.drew = w109 at HO323 HO333 HO336 HO340 HO351 HO354 HO359 BK317 BK318 BK341 BK355 HB hHeld ⊢
 refine take_ (i := 0) (N := some 40) (v := ?_) (a' := ?_) (bs 1 5) rfl rfl (by kernel_rfl) (fun _ _ _ h => h) (Or.inl ⟨by rfl, ?_⟩) hHeld ?_ ?_
 rotate_left
 ·rintro w' ⟨s0, s1, s2, s3, s4, s5, s6, s7, s8, s9, s10, s11, s12, s13, s14, s15, s16, s17⟩
  go_simp
  with_reducible rfl
 rotate_left
 ·simp only [pA, pS, pZ, pK, i64_w, i32_w]
  rfl
 refine take_ (i := 1) (N := some 41) (v := ?_) (a' := ?_) (bs 3 5) rfl rfl (by kernel_rfl) (fun _ _ _ h => h) (Or.inl ⟨by rfl, ?_⟩) hHeld ?_ ?_
 rotate_left
 ·rintro w' ⟨s0, s1, s2, s3, s4, s5, s6, s7, s8, s9, s10, s11, s12, s13, s14, s15, s16, s17⟩
  go_simp
  with_reducible rfl
 rotate_left
 ·simp only [pA, pS, pZ, pK, i64_w, i32_w]
  rfl
 refine one_ (i := 2) (N := some 42) (bs 7 5) rfl rfl (by kernel_rfl) (by decide) (fun K hK => ?_)
 refine goes_ Try.func36 (by kernel_rfl) rfl #[.agg #[.int .i64 a1_0, .int .i64 a1_1, .int .i64 a1_2, .int .i64 a1_3, .int .i64 a1_4, .int .i64 a1_5, .int .i64 a1_6, .slice A1_7 l1_7.length c1_7, .slice A1_8 l1_8.length c1_8]] (by rfl) rfl rfl (by (try simp only [List.map_toArray, List.map_cons, List.map_nil]); first | done | rfl | (simp only [List.length_drop, List.length_take]; rfl)) ?_
 with_reducible refine (laws_toTransaction.calls k a1_0 a1_1 a1_2 a1_3 a1_4 a1_5 a1_6 _ _ l1_7 _ _ l1_8 t361 t362 t363 t364 t365 t366 t367 t368 t371 _ ?side1 ?side2 ?side3 ?side4 A29.out).mono ?_
 (case side1 => exact CB HR1_7.out HB.out)
 (case side2 => exact HC1_7.out)
 (case side3 => exact CB HR1_8.out HB.out)
 (case side4 => exact HC1_8.out)
 rintro e w110 ⟨v369, v372, rfl, ho0, ho1, hb⟩
 refine ⟨_, rfl, ?_⟩
 replace HO323 := AM_ (Kd.S_below (ST HO323.out) hb)
 replace HO340 := AM_ (Kd.S_below (ST HO340.out) hb)
 replace HO359 := AM_ (Kd.S_below (ST HO359.out) hb)
 have HO370 := AM_ (Kd.R_lower (Kd.R_new' (Kd.R_new' ho0 (Kd.R_lt (RT HO333.out))) (Kd.R_lt (RT HO351.out))) (below_size (BT HB.out)))
 replace HO333 := AM_ (Kd.R_elder' (RT HO333.out) (Kd.R_base ho0) hb)
 replace HO351 := AM_ (Kd.R_elder' (RT HO351.out) (Kd.R_base ho0) hb)
 have HO373 := AM_ (Kd.R_lower (Kd.R_new' (Kd.R_new' ho1 (Kd.R_lt (RT HO336.out))) (Kd.R_lt (RT HO354.out))) (below_size (BT HB.out)))
 replace HO336 := AM_ (Kd.R_elder' (RT HO336.out) (Kd.R_base ho1) hb)
 replace HO354 := AM_ (Kd.R_elder' (RT HO354.out) (Kd.R_base ho1) hb)
 replace BK317 := AM_ (BB BK317.out hb)
 replace BK318 := AM_ (BB BK318.out hb)
 replace BK341 := AM_ (BB BK341.out hb)
 replace BK355 := AM_ (BB BK355.out hb)
 replace HB := AM_ (below_step (BT HB.out) hb)
 (try clear hb)
 (try clear hb2)
 (try clear hk)
 (try clear hi)
 (try clear ho0)
 (try clear ho1)
 obtain ⟨Ao111, co111, eo111⟩ := Kd.R_slice HO370.out
 (first | subst eo111 | (injection eo111 with f1_ f2_ f3_; have f4_ := f1_.symm; have f5_ := f3_.symm; clear f1_ f2_ f3_; subst f4_; subst f5_))
 obtain ⟨Ao112, co112, eo112⟩ := Kd.R_slice HO373.out
 (first | subst eo112 | (injection eo112 with f1_ f2_ f3_; have f4_ := f1_.symm; have f5_ := f3_.symm; clear f1_ f2_ f3_; subst f4_; subst f5_))
 refine hK.out _ _ ⟨bc BK355.out 0, bc BK355.out 1, bc BK355.out 2, bc BK355.out 3, bc BK355.out 4, bc BK355.out 5, bc BK355.out 6, bc BK355.out 7, bc BK355.out 8, bc BK318.out 0, bc BK318.out 1, bc BK318.out 2, bc BK318.out 3, bc BK318.out 4, bc BK318.out 5, bc BK318.out 6, bc BK318.out 7, bc BK318.out 8⟩ (fun hHeld => ?_)
 clear hK K
 refine norm_ (a' := ?_) ?_ ?_
 rotate_left
 ·show Act.put _ (some 42) _ = _
  simp only [pA, pS, pZ, pK, i64_w, i32_w]
  rfl
 refine one_ (i := 3) (N := some 43) (bs 15 5) rfl rfl (by kernel_rfl) (by decide) (fun K hK => ?_)
 refine goes_ Try.func39 (by kernel_rfl) rfl #[.agg #[.int .i64 t342, .int .i64 t343, .int .i64 t344, .int .i64 t345, .int .i64 t346, .int .i64 t347, .int .i64 t348, .slice Ao101 t349.length co101, .slice Ao102 t352.length co102], .agg #[.int .i64 t361, .int .i64 t362, .int .i64 t363, .int .i64 t364, .int .i64 t365, .int .i64 t366, .int .i64 t367, .slice Ao111 t368.length co111, .slice Ao112 t371.length co112]] (by rfl) rfl rfl (by (try simp only [List.map_toArray, List.map_cons, List.map_nil]); first | done | rfl | (simp only [List.length_drop, List.length_take]; rfl)) ?_
 with_reducible refine (laws_eqTransaction.calls k t342 t343 t344 t345 t346 t347 t348 _ _ t349 _ _ t352 t361 t362 t363 t364 t365 t366 t367 _ _ t368 _ _ t371 false _ ?side1 ?side2 ?side3 ?side4 ?side5 ?side6 ?side7 ?side8 A30.out).mono ?_
 (case side1 => exact Kd.C_below (Kd.R_reads' HO351.out).2.2 (BL (Below.refl _ _) rfl rfl rfl rfl))
 (case side2 => exact (Kd.R_reads' HO351.out).2.1)
 (case side3 => exact Kd.C_below (Kd.R_reads' HO354.out).2.2 (BL (Below.refl _ _) rfl rfl rfl rfl))
 (case side4 => exact (Kd.R_reads' HO354.out).2.1)
 (case side5 => exact Kd.C_below (Kd.R_reads' HO370.out).2.2 (BL (Below.refl _ _) rfl rfl rfl rfl))
 (case side6 => exact (Kd.R_reads' HO370.out).2.1)
 (case side7 => exact Kd.C_below (Kd.R_reads' HO373.out).2.2 (BL (Below.refl _ _) rfl rfl rfl rfl))
 (case side8 => exact (Kd.R_reads' HO373.out).2.1)
 rintro e w113 ⟨rfl, hb⟩
 refine ⟨_, rfl, ?_⟩
 replace HO323 := AM_ (Kd.S_below (ST HO323.out) hb)
 replace HO333 := AM_ (Kd.R_below (RT HO333.out) hb)
 replace HO336 := AM_ (Kd.R_below (RT HO336.out) hb)
 replace HO340 := AM_ (Kd.S_below (ST HO340.out) hb)
 replace HO351 := AM_ (Kd.R_below (RT HO351.out) hb)
 replace HO354 := AM_ (Kd.R_below (RT HO354.out) hb)
 replace HO359 := AM_ (Kd.S_below (ST HO359.out) hb)
 replace HO370 := AM_ (Kd.R_below (RT HO370.out) hb)
 replace HO373 := AM_ (Kd.R_below (RT HO373.out) hb)
 replace BK317 := AM_ (BB BK317.out hb)
 replace BK318 := AM_ (BB BK318.out hb)
 replace BK341 := AM_ (BB BK341.out hb)
 replace BK355 := AM_ (BB BK355.out hb)
 replace HB := AM_ (below_step (BT HB.out) hb)
 (try clear hb)
 (try clear hb2)
 (try clear hk)
 (try clear hi)
 refine hK.out _ _ ⟨bc BK355.out 0, bc BK355.out 1, bc BK355.out 2, bc BK355.out 3, bc BK355.out 4, bc BK355.out 5, bc BK355.out 6, bc BK355.out 7, bc BK355.out 8, bc BK318.out 0, bc BK318.out 1, bc BK318.out 2, bc BK318.out 3, bc BK318.out 4, bc BK318.out 5, bc BK318.out 6, bc BK318.out 7, bc BK318.out 8⟩ (fun hHeld => ?_)
 clear hK K
 refine norm_ (a' := ?_) ?_ ?_
 rotate_left
 ·show Act.put _ (some 43) _ = _
  simp only [pA, pS, pZ, pK, i64_w, i32_w]
  rfl
 refine pure_ (i := 4) (N := some 44) (v := ?_) (a' := ?_) (bs 31 5) rfl rfl (by kernel_rfl) (fun _ _ _ h => h) (Or.inl ⟨by rfl, ?_⟩) ?_ ?_
 rotate_left
 ·intro w'
  go_simp
  with_reducible rfl
 rotate_left
 ·simp only [pA, pS, pZ, pK, i64_w, i32_w]
  rfl
 refine done_ (by kernel_rfl) ?_
 try go_wp2
 go_ret
 exact QT (BT HB.out)

end Go.Proofs.Ytakpkmlbklahhaa.PFnExactCommitCode
