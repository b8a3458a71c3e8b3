/- The law FnExactTransactionIDs holds of the given program for every input: it returns true, and its arguments read afterwards as before. No condition. -/
import Derived.Test.YtakpkmlbklahhaaRows
import Derived.Test.YtakpkmlbklahhaaGoodFnExactTransactionIDs
import Derived.Test.YtakpkmlbklahhaaPureFnExactTransactionIDs
import Derived.WalkKit
import Derived.ProofKit
import Derived.OpenShut
import Derived.ShutString
import Derived.ChangeOld
import Derived.Below
import Derived.SizedLaws
import Derived.Carry
namespace Go.Proofs.Ytakpkmlbklahhaa.fnExactTransactionIDs
open Go.ChangeShapes Go.WideShapes Go.ChangeAt Go.RowKit Go.Proofs.Ytakpkmlbklahhaa.OpenK Go.Proofs.Ytakpkmlbklahhaa.PFnExactTransactionIDs Go.Proofs.YtakpkmlbklahhaaW.PrintWords Go.Proofs.YtakpkmlbklahhaaW.PrintLast
open Go.ChangeMaps (open_string shut_string)
set_option linter.unusedVariables false
set_option linter.unusedSimpArgs false
theorem own : ownKnob Try.prog.godebug = none := by kernel_rfl
theorem laidOut : laidOutB Try.prog = true := by kernel_rfl
set_option maxRecDepth 100000 in
theorem lifted (os : Os) (started : os.Started) (H : Type) (enc : TypeId × Value → H) :
    ReturnsInHanded {} Try.checked os 12 .any (Rows.fnExactTransactionIDsSpec.pre6 enc Try.prog Try.f12 Rows.fnExactTransactionIDsRow.domain false) (Rows.fnExactTransactionIDsSpec.post enc Try.prog Try.f12 false true false false) := by
  refine returnsInHanded_of_change_sized (C := Try.checked) own started (by kernel_rfl) Try.func12
    (ChangeSpec.witness6 (enc := enc) (C := Try.checked) false ⟨#[], #[.agg #[.bool false, .slice none 0 0, .slice none 0 0, .slice none 0 0, .slice none 0 0, .int .i64 0], .int .i64 0], []⟩ 8 (by kernel_rfl) (by kernel_rfl) (by kernel_rfl) (by kernel_rfl)) ?_
  intro W base args ds gs before hval0 hW hcnd hsz0 _
  have hval : ∀ (j : Nat) t v, Try.f12.params[j]? = some t → args[j]? = some v → Value.okWide Try.prog W .any base t v := hval0
  have hW' := hW
  obtain ⟨p, q, hA0, hV, rfl, hfz, hnd⟩ := hW
  have hA : DataW.TrodAll enc Try.prog W 0 (fun _ => true) true Try.f12.params.toList args.toList ds p := hA0
  rw [Try.params12] at hA hval
  obtain ⟨v0, vs0, d0, ds0, p0, q0, hargs, rfl, rfl, h0, r0⟩ := trodAll_cons hA
  obtain ⟨v1, vs1, d1, ds1, p1, q1, rfl, rfl, rfl, h1, r1⟩ := trodAll_cons r0
  obtain ⟨rfl, rfl, rfl⟩ := trodAll_nil r1
  obtain rfl : args = #[v0, v1] := by cases args; simp_all
  obtain ⟨rfl, rfl⟩ := trodVars_none hV
  have t0 := h0
  have lt0 : ∀ x ∈ p0, x.block < W.heap.size := by obtain ⟨m, hm⟩ := t0; exact DataW.trod_lt m _ _ _ hm
  obtain ⟨cs0, rfl, _⟩ := okWide_struct Try.underlying44 (hval 0 44 v0 rfl rfl)
  obtain ⟨fuel0, hf0⟩ := h0
  obtain ⟨⟨x0_0, x0_1_0, x0_2, x0_3, x0_4, x0_5⟩, hK0, hG0⟩ := (Opens.struct Try.underlying44 (by kernel_rfl) (OpensL.cons (Opens.bool Try.underlying4) (OpensL.cons (Opens.struct Try.underlying39 (by kernel_rfl) (OpensL.one (Opens.slice [] Try.underlying37 (by kernel_rfl) (Opens.slice z207 Try.underlying186 (by kernel_rfl) PFnExactTransactionIDs.open207)))) (OpensL.cons (Opens.slice z60 Try.underlying40 (by kernel_rfl) PFnExactTransactionIDs.open60) (OpensL.cons (Opens.slice z160 Try.underlying41 (by kernel_rfl) PFnExactTransactionIDs.open160) (OpensL.cons (Opens.slice z183 Try.underlying42 (by kernel_rfl) PFnExactTransactionIDs.open183) (OpensL.one (Opens.int Try.underlying3)))))))) _ _ _ _ _ _ _ _ _ hf0
  obtain ⟨wx0_0, wx0_1_0, wx0_2, wx0_3, wx0_4, wx0_5⟩ := hG0
  obtain ⟨_, _, hcs0, rfl, ⟨_, _, rfl, ⟨Ax0_1_0, cx0_1_0, rfl, hlx0_1_0, hCx0_1_0⟩, ⟨_, _, rfl, ⟨Ax0_2, cx0_2, rfl, hlx0_2, hCx0_2⟩, ⟨_, _, rfl, ⟨Ax0_3, cx0_3, rfl, hlx0_3, hCx0_3⟩, ⟨_, _, rfl, ⟨Ax0_4, cx0_4, rfl, hlx0_4, hCx0_4⟩, rfl⟩⟩⟩⟩⟩ := hK0
  obtain rfl : cs0 = #[.bool x0_0, .slice Ax0_1_0 x0_1_0.length cx0_1_0, .slice Ax0_2 x0_2.length cx0_2, .slice Ax0_3 x0_3.length cx0_3, .slice Ax0_4 x0_4.length cx0_4, .int .i64 x0_5] := Array.ext' hcs0
  obtain ⟨x1, rfl, rfl, rfl, w1⟩ := open_int Try.underlying3 (hval 1 3 v1 rfl rfl) h1
  clear hA0 hval0 hsz0
  obtain ⟨k, hp⟩ := Pure.FnExactTransactionIDs x0_0 x0_1_0 x0_2 x0_3 x0_4 x0_5 x1 wx0_0 wx0_1_0 wx0_2 wx0_3 wx0_4 wx0_5 w1
  refine (laws_FnExactTransactionIDs.calls k x0_0 _ _ x0_1_0 _ _ x0_2 _ _ x0_3 _ _ x0_4 x0_5 x1 true W hCx0_1_0 hlx0_1_0 hCx0_2 hlx0_2 hCx0_3 hlx0_3 hCx0_4 hlx0_4 hp).mono fun e W' ⟨he, bel0⟩ => ?_
  have bel : Below W.heap.size W W' := bel0
  subst he
  exact ⟨_, rfl, _, _, _, [], _, [], hW', trodAll_mk1 (shut_bool Try.underlying4 _), (trodAll_cons_mk (Below.trod laidOut (by kernel_rfl) (of_decide_eq_true (by kernel_rfl)) t0 bel lt0) (trodAll_cons_mk (shut_int Try.underlying3 w1) trodAll_mk0)), rfl, bel.frame _, fun h => by cases h⟩
theorem over : Rows.fnExactTransactionIDsRow.holds Try.pinned (OpenSpec.ofChange Rows.fnExactTransactionIDsSpec) :=
  OpenClaim.holds_of_wide 12 Try.f12 rfl rfl rfl rfl rfl rfl rfl ⟨rfl, rfl, rfl, rfl, rfl⟩ rfl rfl rfl rfl rfl (by kernel_rfl) Try.func12 (by kernel_rfl)
    (of_decide_eq_true (by kernel_rfl)) (by unfold Func.isWrapper; first | (rw [if_pos (by decide +kernel)]; kernel_rfl) | (rw [if_neg (by decide +kernel)]; exact ⟨rfl, rfl⟩))
    (fun os started H enc _ => lifted os started H enc)
theorem proved : Rows.FnExactTransactionIDsSaid := over
#print axioms proved
end Go.Proofs.Ytakpkmlbklahhaa.fnExactTransactionIDs
namespace Go.Proofs.Ytakpkmlbklahhaa
theorem fnExactTransactionIDs_holds : Rows.FnExactTransactionIDsSaid := fnExactTransactionIDs.proved
end Go.Proofs.Ytakpkmlbklahhaa
