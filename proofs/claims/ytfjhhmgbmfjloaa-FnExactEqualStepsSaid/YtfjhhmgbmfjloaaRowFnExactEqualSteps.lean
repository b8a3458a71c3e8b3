/- The law FnExactEqualSteps holds of the given program for every input: it returns true, and its arguments read afterwards as before. No condition. -/
import Derived.Test.YtfjhhmgbmfjloaaRows
import Derived.Test.YtfjhhmgbmfjloaaGoodFnExactEqualSteps
import Derived.Test.YtfjhhmgbmfjloaaPureFnExactEqualSteps
import Derived.WalkKit
import Derived.ProofKit
import Derived.OpenShut
import Derived.ShutString
import Derived.ChangeOld
import Derived.Below
import Derived.SizedLaws
import Derived.Carry
namespace Go.Proofs.Ytfjhhmgbmfjloaa.fnExactEqualSteps
open Go.ChangeShapes Go.WideShapes Go.ChangeAt Go.RowKit Go.Proofs.Ytfjhhmgbmfjloaa.OpenK Go.Proofs.Ytfjhhmgbmfjloaa.PFnExactEqualSteps Go.Proofs.YtfjhhmgbmfjloaaW.PrintWords Go.Proofs.YtfjhhmgbmfjloaaW.PrintLast
open Go.ChangeMaps (open_string shut_string)
set_option linter.unusedVariables false
set_option linter.unusedSimpArgs false
theorem own : ownKnob Try.prog.godebug = none := by kernel_rfl
theorem laidOut : laidOutB Try.prog = true := by kernel_rfl
set_option maxRecDepth 100000 in
theorem lifted (os : Os) (started : os.Started) (H : Type) (enc : TypeId × Value → H) :
    ReturnsInHanded {} Try.checked os 11 .any (Rows.fnExactEqualStepsSpec.pre6 enc Try.prog Try.f11 Rows.fnExactEqualStepsRow.domain false) (Rows.fnExactEqualStepsSpec.post enc Try.prog Try.f11 false true false false) := by
  refine returnsInHanded_of_change_sized (C := Try.checked) own started (by kernel_rfl) Try.func11
    (ChangeSpec.witness6 (enc := enc) (C := Try.checked) false ⟨#[], #[.agg #[.int .i64 0, .slice none 0 0], .agg #[.int .i64 0, .slice none 0 0]], []⟩ 8 (by kernel_rfl) (by kernel_rfl) (by kernel_rfl) (by kernel_rfl)) ?_
  intro W base args ds gs before hval0 hW hcnd hsz0 _
  have hval : ∀ (j : Nat) t v, Try.f11.params[j]? = some t → args[j]? = some v → Value.okWide Try.prog W .any base t v := hval0
  have hW' := hW
  obtain ⟨p, q, hA0, hV, rfl, hfz, hnd⟩ := hW
  have hA : DataW.TrodAll enc Try.prog W 0 (fun _ => true) true Try.f11.params.toList args.toList ds p := hA0
  rw [Try.params11] at hA hval
  obtain ⟨v0, vs0, d0, ds0, p0, q0, hargs, rfl, rfl, h0, r0⟩ := trodAll_cons hA
  obtain ⟨v1, vs1, d1, ds1, p1, q1, rfl, rfl, rfl, h1, r1⟩ := trodAll_cons r0
  obtain ⟨rfl, rfl, rfl⟩ := trodAll_nil r1
  obtain rfl : args = #[v0, v1] := by cases args; simp_all
  obtain ⟨rfl, rfl⟩ := trodVars_none hV
  have t0 := h0
  have lt0 : ∀ x ∈ p0, x.block < W.heap.size := by obtain ⟨m, hm⟩ := t0; exact DataW.trod_lt m _ _ _ hm
  obtain ⟨cs0, rfl, _⟩ := okWide_struct Try.underlying58 (hval 0 58 v0 rfl rfl)
  obtain ⟨fuel0, hf0⟩ := h0
  obtain ⟨⟨x0_0, x0_1⟩, hK0, hG0⟩ := (Opens.struct Try.underlying58 (by kernel_rfl) (OpensL.cons (Opens.int Try.underlying3) (OpensL.one (Opens.slice (0 : Int) Try.underlying56 (by kernel_rfl) (Opens.int Try.underlying3))))) _ _ _ _ _ _ _ _ _ hf0
  obtain ⟨wx0_0, wx0_1⟩ := hG0
  obtain ⟨_, _, hcs0, rfl, ⟨Ax0_1, cx0_1, rfl, hlx0_1, hCx0_1⟩⟩ := hK0
  obtain rfl : cs0 = #[.int .i64 x0_0, .slice Ax0_1 x0_1.length cx0_1] := Array.ext' hcs0
  have t1 := h1
  have lt1 : ∀ x ∈ p1, x.block < W.heap.size := by obtain ⟨m, hm⟩ := t1; exact DataW.trod_lt m _ _ _ hm
  obtain ⟨cs1, rfl, _⟩ := okWide_struct Try.underlying58 (hval 1 58 v1 rfl rfl)
  obtain ⟨fuel1, hf1⟩ := h1
  obtain ⟨⟨x1_0, x1_1⟩, hK1, hG1⟩ := (Opens.struct Try.underlying58 (by kernel_rfl) (OpensL.cons (Opens.int Try.underlying3) (OpensL.one (Opens.slice (0 : Int) Try.underlying56 (by kernel_rfl) (Opens.int Try.underlying3))))) _ _ _ _ _ _ _ _ _ hf1
  obtain ⟨wx1_0, wx1_1⟩ := hG1
  obtain ⟨_, _, hcs1, rfl, ⟨Ax1_1, cx1_1, rfl, hlx1_1, hCx1_1⟩⟩ := hK1
  obtain rfl : cs1 = #[.int .i64 x1_0, .slice Ax1_1 x1_1.length cx1_1] := Array.ext' hcs1
  clear hA0 hval0 hsz0
  obtain ⟨k, hp⟩ := Pure.FnExactEqualSteps x0_0 x0_1 x1_0 x1_1 wx0_0 wx0_1 wx1_0 wx1_1
  refine (laws_FnExactEqualSteps.calls k x0_0 _ _ x0_1 x1_0 _ _ x1_1 true W hCx0_1 hlx0_1 hCx1_1 hlx1_1 hp).mono fun e W' ⟨he, bel0⟩ => ?_
  have bel : Below W.heap.size W W' := bel0
  subst he
  exact ⟨_, rfl, _, _, _, [], _, [], hW', trodAll_mk1 (shut_bool Try.underlying4 _), (trodAll_cons_mk (Below.trod laidOut (by kernel_rfl) (of_decide_eq_true (by kernel_rfl)) t0 bel lt0) (trodAll_cons_mk (Below.trod laidOut (by kernel_rfl) (of_decide_eq_true (by kernel_rfl)) t1 bel lt1) trodAll_mk0)), rfl, bel.frame _, fun h => by cases h⟩
theorem over : Rows.fnExactEqualStepsRow.holds Try.pinned (OpenSpec.ofChange Rows.fnExactEqualStepsSpec) :=
  OpenClaim.holds_of_wide 11 Try.f11 rfl rfl rfl rfl rfl rfl rfl ⟨rfl, rfl, rfl, rfl, rfl⟩ rfl rfl rfl rfl rfl (by kernel_rfl) Try.func11 (by kernel_rfl)
    (of_decide_eq_true (by kernel_rfl)) (by unfold Func.isWrapper; first | (rw [if_pos (by decide +kernel)]; kernel_rfl) | (rw [if_neg (by decide +kernel)]; exact ⟨rfl, rfl⟩))
    (fun os started H enc _ => lifted os started H enc)
theorem proved : Rows.FnExactEqualStepsSaid := over
#print axioms proved
end Go.Proofs.Ytfjhhmgbmfjloaa.fnExactEqualSteps
namespace Go.Proofs.Ytfjhhmgbmfjloaa
theorem fnExactEqualSteps_holds : Rows.FnExactEqualStepsSaid := fnExactEqualSteps.proved
end Go.Proofs.Ytfjhhmgbmfjloaa
