/- The law FnExactIsValidEngine holds of the given program for every input: it returns true, and its arguments read afterwards as before. No condition. -/
import Derived.Test.YtdgknikgfjhohaaRows
import Derived.Test.YtdgknikgfjhohaaGoodFnExactIsValidEngine
import Derived.Test.YtdgknikgfjhohaaPureFnExactIsValidEngine
import Derived.WalkKit
import Derived.ProofKit
import Derived.OpenShut
import Derived.ShutString
import Derived.ChangeOld
import Derived.Below
import Derived.SizedLaws
import Derived.Carry
namespace Go.Proofs.Ytdgknikgfjhohaa.fnExactIsValidEngine
open Go.ChangeShapes Go.WideShapes Go.ChangeAt Go.RowKit Go.Proofs.Ytdgknikgfjhohaa.OpenK Go.Proofs.Ytdgknikgfjhohaa.PFnExactIsValidEngine Go.Proofs.YtdgknikgfjhohaaW.PrintWords Go.Proofs.YtdgknikgfjhohaaW.PrintLast
open Go.ChangeMaps (open_string shut_string)
set_option linter.unusedVariables false
set_option linter.unusedSimpArgs false
theorem own : ownKnob Try.prog.godebug = none := by kernel_rfl
theorem laidOut : laidOutB Try.prog = true := by kernel_rfl
set_option maxRecDepth 100000 in
theorem lifted (os : Os) (started : os.Started) (H : Type) (enc : TypeId × Value → H) :
    ReturnsInHanded {} Try.checked os 3 .any (Rows.fnExactIsValidEngineSpec.pre6 enc Try.prog Try.f3 Rows.fnExactIsValidEngineRow.domain false) (Rows.fnExactIsValidEngineSpec.post enc Try.prog Try.f3 false true false false) := by
  refine returnsInHanded_of_change_sized (C := Try.checked) own started (by kernel_rfl) Try.func3
    (ChangeSpec.witness6 (enc := enc) (C := Try.checked) false ⟨#[], #[.agg #[.bool false, .slice none 0 0, .slice none 0 0, .slice none 0 0, .slice none 0 0, .int .i64 0]], []⟩ 8 (by kernel_rfl) (by kernel_rfl) (by kernel_rfl) (by kernel_rfl)) ?_
  intro W base args ds gs before hval0 hW hcnd hsz0 _
  have hval : ∀ (j : Nat) t v, Try.f3.params[j]? = some t → args[j]? = some v → Value.okWide Try.prog W .any base t v := hval0
  have hW' := hW
  obtain ⟨p, q, hA0, hV, rfl, hfz, hnd⟩ := hW
  have hA : DataW.TrodAll enc Try.prog W 0 (fun _ => true) true Try.f3.params.toList args.toList ds p := hA0
  rw [Try.params3] at hA hval
  obtain ⟨v0, vs0, d0, ds0, p0, q0, hargs, rfl, rfl, h0, r0⟩ := trodAll_cons hA
  obtain ⟨rfl, rfl, rfl⟩ := trodAll_nil r0
  obtain rfl : args = #[v0] := by cases args; simp_all
  obtain ⟨rfl, rfl⟩ := trodVars_none hV
  have t0 := h0
  have lt0 : ∀ x ∈ p0, x.block < W.heap.size := by obtain ⟨m, hm⟩ := t0; exact DataW.trod_lt m _ _ _ hm
  obtain ⟨cs0, rfl, _⟩ := okWide_struct Try.underlying29 (hval 0 29 v0 rfl rfl)
  obtain ⟨fuel0, hf0⟩ := h0
  obtain ⟨⟨x0_0, x0_1_0, x0_2, x0_3, x0_4, x0_5⟩, hK0, hG0⟩ := (Opens.struct Try.underlying29 (by kernel_rfl) (OpensL.cons (Opens.bool Try.underlying4) (OpensL.cons (Opens.struct Try.underlying24 (by kernel_rfl) (OpensL.one (Opens.slice [] Try.underlying22 (by kernel_rfl) (Opens.slice z171 Try.underlying148 (by kernel_rfl) PFnExactIsValidEngine.open171)))) (OpensL.cons (Opens.slice z114 Try.underlying25 (by kernel_rfl) PFnExactIsValidEngine.open114) (OpensL.cons (Opens.slice z123 Try.underlying26 (by kernel_rfl) PFnExactIsValidEngine.open123) (OpensL.cons (Opens.slice z125 Try.underlying27 (by kernel_rfl) PFnExactIsValidEngine.open125) (OpensL.one (Opens.int Try.underlying3)))))))) _ _ _ _ _ _ _ _ _ hf0
  obtain ⟨wx0_0, wx0_1_0, wx0_2, wx0_3, wx0_4, wx0_5⟩ := hG0
  obtain ⟨_, _, hcs0, rfl, ⟨_, _, rfl, ⟨Ax0_1_0, cx0_1_0, rfl, hlx0_1_0, hCx0_1_0⟩, ⟨_, _, rfl, ⟨Ax0_2, cx0_2, rfl, hlx0_2, hCx0_2⟩, ⟨_, _, rfl, ⟨Ax0_3, cx0_3, rfl, hlx0_3, hCx0_3⟩, ⟨_, _, rfl, ⟨Ax0_4, cx0_4, rfl, hlx0_4, hCx0_4⟩, rfl⟩⟩⟩⟩⟩ := hK0
  obtain rfl : cs0 = #[.bool x0_0, .slice Ax0_1_0 x0_1_0.length cx0_1_0, .slice Ax0_2 x0_2.length cx0_2, .slice Ax0_3 x0_3.length cx0_3, .slice Ax0_4 x0_4.length cx0_4, .int .i64 x0_5] := Array.ext' hcs0
  clear hA0 hval0 hsz0
  obtain ⟨k, hp⟩ := Pure.FnExactIsValidEngine x0_0 x0_1_0 x0_2 x0_3 x0_4 x0_5 wx0_0 wx0_1_0 wx0_2 wx0_3 wx0_4 wx0_5
  refine (laws_FnExactIsValidEngine.calls k x0_0 _ _ x0_1_0 _ _ x0_2 _ _ x0_3 _ _ x0_4 x0_5 true W hCx0_1_0 hlx0_1_0 hCx0_2 hlx0_2 hCx0_3 hlx0_3 hCx0_4 hlx0_4 hp).mono fun e W' ⟨he, bel0⟩ => ?_
  have bel : Below W.heap.size W W' := bel0
  subst he
  exact ⟨_, rfl, _, _, _, [], _, [], hW', trodAll_mk1 (shut_bool Try.underlying4 _), (trodAll_cons_mk (Below.trod laidOut (by kernel_rfl) (of_decide_eq_true (by kernel_rfl)) t0 bel lt0) trodAll_mk0), rfl, bel.frame _, fun h => by cases h⟩
theorem over : Rows.fnExactIsValidEngineRow.holds Try.pinned (OpenSpec.ofChange Rows.fnExactIsValidEngineSpec) :=
  OpenClaim.holds_of_wide 3 Try.f3 rfl rfl rfl rfl rfl rfl rfl ⟨rfl, rfl, rfl, rfl, rfl⟩ rfl rfl rfl rfl rfl (by kernel_rfl) Try.func3 (by kernel_rfl)
    (of_decide_eq_true (by kernel_rfl)) (by unfold Func.isWrapper; first | (rw [if_pos (by decide +kernel)]; kernel_rfl) | (rw [if_neg (by decide +kernel)]; exact ⟨rfl, rfl⟩))
    (fun os started H enc _ => lifted os started H enc)
theorem proved : Rows.FnExactIsValidEngineSaid := over
#print axioms proved
end Go.Proofs.Ytdgknikgfjhohaa.fnExactIsValidEngine
namespace Go.Proofs.Ytdgknikgfjhohaa
theorem fnExactIsValidEngine_holds : Rows.FnExactIsValidEngineSaid := fnExactIsValidEngine.proved
end Go.Proofs.Ytdgknikgfjhohaa
