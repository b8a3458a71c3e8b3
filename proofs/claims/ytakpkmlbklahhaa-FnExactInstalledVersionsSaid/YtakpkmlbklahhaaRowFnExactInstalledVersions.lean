/- The law FnExactInstalledVersions holds of the given program for every input: it returns true, and its arguments read afterwards as before. No condition. -/
import Derived.Test.YtakpkmlbklahhaaRows
import Derived.Test.YtakpkmlbklahhaaGoodFnExactInstalledVersions
import Derived.Test.YtakpkmlbklahhaaPureFnExactInstalledVersions
import Derived.WalkKit
import Derived.ProofKit
import Derived.OpenShut
import Derived.ShutString
import Derived.ChangeOld
import Derived.Below
import Derived.SizedLaws
import Derived.Carry
namespace Go.Proofs.Ytakpkmlbklahhaa.fnExactInstalledVersions
open Go.ChangeShapes Go.WideShapes Go.ChangeAt Go.RowKit Go.Proofs.Ytakpkmlbklahhaa.OpenK Go.Proofs.Ytakpkmlbklahhaa.PFnExactInstalledVersions Go.Proofs.YtakpkmlbklahhaaW.PrintWords Go.Proofs.YtakpkmlbklahhaaW.PrintLast
open Go.ChangeMaps (open_string shut_string)
set_option linter.unusedVariables false
set_option linter.unusedSimpArgs false
theorem own : ownKnob Try.prog.godebug = none := by kernel_rfl
theorem laidOut : laidOutB Try.prog = true := by kernel_rfl
set_option maxRecDepth 100000 in
theorem lifted (os : Os) (started : os.Started) (H : Type) (enc : TypeId × Value → H) :
    ReturnsInHanded {} Try.checked os 11 .any (Rows.fnExactInstalledVersionsSpec.pre6 enc Try.prog Try.f11 Rows.fnExactInstalledVersionsRow.domain false) (Rows.fnExactInstalledVersionsSpec.post enc Try.prog Try.f11 false true false false) := by
  refine returnsInHanded_of_change_sized (C := Try.checked) own started (by kernel_rfl) Try.func11
    (ChangeSpec.witness6 (enc := enc) (C := Try.checked) false ⟨#[], #[.agg #[.slice none 0 0], .agg #[.int .i64 0, .int .i64 0, .int .i64 0, .int .i64 0, .int .i64 0, .int .i64 0, .int .i64 0, .slice none 0 0, .slice none 0 0]], []⟩ 8 (by kernel_rfl) (by kernel_rfl) (by kernel_rfl) (by kernel_rfl)) ?_
  intro W base args ds gs before hval0 hW hcnd hsz0 _
  have hval : ∀ (j : Nat) t v, Try.f11.params[j]? = some t → args[j]? = some v → Value.okWide Try.prog W .any base t v := hval0
  have hW' := hW
  obtain ⟨p, q, hA0, hV, rfl, hfz, hnd⟩ := hW
  have hA : DataW.TrodAll enc Try.prog W 0 (fun _ => true) true Try.f11.params.toList args.toList ds p := hA0
  rw [Try.params11] at hA hval
  obtain ⟨v0, vs0, d0, ds0, p0, q0, hargs, rfl, rfl, h0, r0⟩ := trodAll_cons hA
  obtain ⟨v1, vs1, d1, ds1, p1, q1, rfl, rfl, rfl, h1, r1⟩ := trodAll_cons r0
  obtain ⟨rfl, rfl, rfl⟩ := trodAll_nil r1
  obtain rfl : args = #[v0, v1] := by cases args; simp_all
  obtain ⟨rfl, rfl⟩ := trodVars_none hV
  have t0 := h0
  have lt0 : ∀ x ∈ p0, x.block < W.heap.size := by obtain ⟨m, hm⟩ := t0; exact DataW.trod_lt m _ _ _ hm
  obtain ⟨cs0, rfl, _⟩ := okWide_struct Try.underlying39 (hval 0 39 v0 rfl rfl)
  obtain ⟨fuel0, hf0⟩ := h0
  obtain ⟨x0_0, hK0, hG0⟩ := (Opens.struct Try.underlying39 (by kernel_rfl) (OpensL.one (Opens.slice [] Try.underlying37 (by kernel_rfl) (Opens.slice z207 Try.underlying186 (by kernel_rfl) PFnExactInstalledVersions.open207)))) _ _ _ _ _ _ _ _ _ hf0
  have wx0_0 := hG0
  obtain ⟨Ax0_0, cx0_0, hcs0, hlx0_0, hCx0_0⟩ := hK0
  obtain rfl : cs0 = #[.slice Ax0_0 x0_0.length cx0_0] := Array.ext' hcs0
  have t1 := h1
  have lt1 : ∀ x ∈ p1, x.block < W.heap.size := by obtain ⟨m, hm⟩ := t1; exact DataW.trod_lt m _ _ _ hm
  obtain ⟨cs1, rfl, _⟩ := okWide_struct Try.underlying60 (hval 1 60 v1 rfl rfl)
  obtain ⟨fuel1, hf1⟩ := h1
  obtain ⟨⟨x1_0, x1_1, x1_2, x1_3, x1_4, x1_5, x1_6, x1_7, x1_8⟩, hK1, hG1⟩ := (Opens.struct Try.underlying60 (by kernel_rfl) (OpensL.cons (Opens.int Try.underlying3) (OpensL.cons (Opens.int Try.underlying3) (OpensL.cons (Opens.int Try.underlying3) (OpensL.cons (Opens.int Try.underlying3) (OpensL.cons (Opens.int Try.underlying3) (OpensL.cons (Opens.int Try.underlying3) (OpensL.cons (Opens.int Try.underlying3) (OpensL.cons (Opens.slice z189 Try.underlying57 (by kernel_rfl) PFnExactInstalledVersions.open189) (OpensL.one (Opens.slice z191 Try.underlying58 (by kernel_rfl) PFnExactInstalledVersions.open191))))))))))) _ _ _ _ _ _ _ _ _ hf1
  obtain ⟨wx1_0, wx1_1, wx1_2, wx1_3, wx1_4, wx1_5, wx1_6, wx1_7, wx1_8⟩ := hG1
  obtain ⟨_, _, hcs1, rfl, ⟨_, _, rfl, rfl, ⟨_, _, rfl, rfl, ⟨_, _, rfl, rfl, ⟨_, _, rfl, rfl, ⟨_, _, rfl, rfl, ⟨_, _, rfl, rfl, ⟨_, _, rfl, ⟨Ax1_7, cx1_7, rfl, hlx1_7, hCx1_7⟩, ⟨Ax1_8, cx1_8, rfl, hlx1_8, hCx1_8⟩⟩⟩⟩⟩⟩⟩⟩⟩ := hK1
  obtain rfl : cs1 = #[.int .i64 x1_0, .int .i64 x1_1, .int .i64 x1_2, .int .i64 x1_3, .int .i64 x1_4, .int .i64 x1_5, .int .i64 x1_6, .slice Ax1_7 x1_7.length cx1_7, .slice Ax1_8 x1_8.length cx1_8] := Array.ext' hcs1
  clear hA0 hval0 hsz0
  obtain ⟨k, hp⟩ := Pure.FnExactInstalledVersions x0_0 x1_0 x1_1 x1_2 x1_3 x1_4 x1_5 x1_6 x1_7 x1_8 wx0_0 wx1_0 wx1_1 wx1_2 wx1_3 wx1_4 wx1_5 wx1_6 wx1_7 wx1_8
  refine (laws_FnExactInstalledVersions.calls k _ _ x0_0 x1_0 x1_1 x1_2 x1_3 x1_4 x1_5 x1_6 _ _ x1_7 _ _ x1_8 true W hCx0_0 hlx0_0 hCx1_7 hlx1_7 hCx1_8 hlx1_8 hp).mono fun e W' ⟨he, bel0⟩ => ?_
  have bel : Below W.heap.size W W' := bel0
  subst he
  exact ⟨_, rfl, _, _, _, [], _, [], hW', trodAll_mk1 (shut_bool Try.underlying4 _), (trodAll_cons_mk (Below.trod laidOut (by kernel_rfl) (of_decide_eq_true (by kernel_rfl)) t0 bel lt0) (trodAll_cons_mk (Below.trod laidOut (by kernel_rfl) (of_decide_eq_true (by kernel_rfl)) t1 bel lt1) trodAll_mk0)), rfl, bel.frame _, fun h => by cases h⟩
theorem over : Rows.fnExactInstalledVersionsRow.holds Try.pinned (OpenSpec.ofChange Rows.fnExactInstalledVersionsSpec) :=
  OpenClaim.holds_of_wide 11 Try.f11 rfl rfl rfl rfl rfl rfl rfl ⟨rfl, rfl, rfl, rfl, rfl⟩ rfl rfl rfl rfl rfl (by kernel_rfl) Try.func11 (by kernel_rfl)
    (of_decide_eq_true (by kernel_rfl)) (by unfold Func.isWrapper; first | (rw [if_pos (by decide +kernel)]; kernel_rfl) | (rw [if_neg (by decide +kernel)]; exact ⟨rfl, rfl⟩))
    (fun os started H enc _ => lifted os started H enc)
theorem proved : Rows.FnExactInstalledVersionsSaid := over
#print axioms proved
end Go.Proofs.Ytakpkmlbklahhaa.fnExactInstalledVersions
namespace Go.Proofs.Ytakpkmlbklahhaa
theorem fnExactInstalledVersions_holds : Rows.FnExactInstalledVersionsSaid := fnExactInstalledVersions.proved
end Go.Proofs.Ytakpkmlbklahhaa
