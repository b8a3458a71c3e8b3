/- The law FnExactIndexOf holds of the given program for every input: it returns true, and its arguments read afterwards as before. No condition. -/
import Derived.Test.YtpiaeinfneoioaaRows
import Derived.Test.YtpiaeinfneoioaaGoodFnExactIndexOf
import Derived.Test.YtpiaeinfneoioaaPureFnExactIndexOf
import Derived.WalkKit
import Derived.ProofKit
import Derived.OpenShut
import Derived.ShutString
import Derived.ChangeOld
import Derived.Below
import Derived.SizedLaws
import Derived.Carry
namespace Go.Proofs.Ytpiaeinfneoioaa.fnExactIndexOf
open Go.ChangeShapes Go.WideShapes Go.ChangeAt Go.RowKit Go.Proofs.Ytpiaeinfneoioaa.OpenK Go.Proofs.Ytpiaeinfneoioaa.PFnExactIndexOf Go.Proofs.YtpiaeinfneoioaaW.PrintWords Go.Proofs.YtpiaeinfneoioaaW.PrintLast
open Go.ChangeMaps (open_string shut_string)
set_option linter.unusedVariables false
set_option linter.unusedSimpArgs false
theorem own : ownKnob Try.prog.godebug = none := by kernel_rfl
theorem laidOut : laidOutB Try.prog = true := by kernel_rfl
set_option maxRecDepth 100000 in
theorem lifted (os : Os) (started : os.Started) (H : Type) (enc : TypeId × Value → H) :
    ReturnsInHanded {} Try.checked os 11 .any (Rows.fnExactIndexOfSpec.pre6 enc Try.prog Try.f11 Rows.fnExactIndexOfRow.domain false) (Rows.fnExactIndexOfSpec.post enc Try.prog Try.f11 false true false false) := by
  refine returnsInHanded_of_change_sized (C := Try.checked) own started (by kernel_rfl) Try.func11
    (ChangeSpec.witness6 (enc := enc) (C := Try.checked) false ⟨#[], #[.agg #[.slice none 0 0]], []⟩ 8 (by kernel_rfl) (by kernel_rfl) (by kernel_rfl) (by kernel_rfl)) ?_
  intro W base args ds gs before hval0 hW hcnd hsz0 _
  have hval : ∀ (j : Nat) t v, Try.f11.params[j]? = some t → args[j]? = some v → Value.okWide Try.prog W .any base t v := hval0
  have hW' := hW
  obtain ⟨p, q, hA0, hV, rfl, hfz, hnd⟩ := hW
  have hA : DataW.TrodAll enc Try.prog W 0 (fun _ => true) true Try.f11.params.toList args.toList ds p := hA0
  rw [Try.params11] at hA hval
  obtain ⟨v0, vs0, d0, ds0, p0, q0, hargs, rfl, rfl, h0, r0⟩ := trodAll_cons hA
  obtain ⟨rfl, rfl, rfl⟩ := trodAll_nil r0
  obtain rfl : args = #[v0] := by cases args; simp_all
  obtain ⟨rfl, rfl⟩ := trodVars_none hV
  have t0 := h0
  have lt0 : ∀ x ∈ p0, x.block < W.heap.size := by obtain ⟨m, hm⟩ := t0; exact DataW.trod_lt m _ _ _ hm
  obtain ⟨cs0, rfl, _⟩ := okWide_struct Try.underlying98 (hval 0 98 v0 rfl rfl)
  obtain ⟨fuel0, hf0⟩ := h0
  obtain ⟨x0_0, hK0, hG0⟩ := (Opens.struct Try.underlying98 (by kernel_rfl) (OpensL.one (Opens.slice [] Try.underlying96 (by kernel_rfl) (Opens.slice z236 Try.underlying220 (by kernel_rfl) PFnExactIndexOf.open236)))) _ _ _ _ _ _ _ _ _ hf0
  have wx0_0 := hG0
  obtain ⟨Ax0_0, cx0_0, hcs0, hlx0_0, hCx0_0⟩ := hK0
  obtain rfl : cs0 = #[.slice Ax0_0 x0_0.length cx0_0] := Array.ext' hcs0
  clear hA0 hval0 hsz0
  obtain ⟨k, hp⟩ := Pure.FnExactIndexOf x0_0 wx0_0
  refine (laws_FnExactIndexOf.calls k _ _ x0_0 true W hCx0_0 hlx0_0 hp).mono fun e W' ⟨he, bel0⟩ => ?_
  have bel : Below W.heap.size W W' := bel0
  subst he
  exact ⟨_, rfl, _, _, _, [], _, [], hW', trodAll_mk1 (shut_bool Try.underlying4 _), (trodAll_cons_mk (Below.trod laidOut (by kernel_rfl) (of_decide_eq_true (by kernel_rfl)) t0 bel lt0) trodAll_mk0), rfl, bel.frame _, fun h => by cases h⟩
theorem over : Rows.fnExactIndexOfRow.holds Try.pinned (OpenSpec.ofChange Rows.fnExactIndexOfSpec) :=
  OpenClaim.holds_of_wide 11 Try.f11 rfl rfl rfl rfl rfl rfl rfl ⟨rfl, rfl, rfl, rfl, rfl⟩ rfl rfl rfl rfl rfl (by kernel_rfl) Try.func11 (by kernel_rfl)
    (of_decide_eq_true (by kernel_rfl)) (by unfold Func.isWrapper; first | (rw [if_pos (by decide +kernel)]; kernel_rfl) | (rw [if_neg (by decide +kernel)]; exact ⟨rfl, rfl⟩))
    (fun os started H enc _ => lifted os started H enc)
theorem proved : Rows.FnExactIndexOfSaid := over
#print axioms proved
end Go.Proofs.Ytpiaeinfneoioaa.fnExactIndexOf
namespace Go.Proofs.Ytpiaeinfneoioaa
theorem fnExactIndexOf_holds : Rows.FnExactIndexOfSaid := fnExactIndexOf.proved
end Go.Proofs.Ytpiaeinfneoioaa
