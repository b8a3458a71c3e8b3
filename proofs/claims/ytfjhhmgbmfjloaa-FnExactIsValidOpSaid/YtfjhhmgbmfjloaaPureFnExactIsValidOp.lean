/- The plain statement of FnExactIsValidOp: case by case both functions answer alike. No condition. -/
import Derived.Test.YtfjhhmgbmfjloaaGoodFnExactIsValidOp
import Derived.Test.YtfjhhmgbmfjloaaPlain
namespace Go.Proofs.Ytfjhhmgbmfjloaa.Pure
open Go.RowKit Go.Proofs.Ytfjhhmgbmfjloaa.PFnExactIsValidOp Go.Proofs.YtfjhhmgbmfjloaaW.PrintWords Go.Proofs.YtfjhhmgbmfjloaaW.PrintLast Go.Proofs.Ytfjhhmgbmfjloaa.OpenK Go.Proofs.Ytfjhhmgbmfjloaa.Plain
set_option linter.unusedVariables false
set_option linter.unusedSimpArgs false


theorem l1In_eq (a b c : Int) : spec_l1In.f a b c = some (decide (b ≤ a) && decide (a ≤ c)) := by
  by_cases h : b ≤ a <;> simp [spec_l1In.f, h]
theorem in_eq (a b c : Int) : impl_in.f a b c = some (decide (b ≤ a) && decide (a ≤ c)) := by
  by_cases h : b ≤ a <;> simp [impl_in.f, h]
set_option maxHeartbeats 8000000 in
theorem both_IsValidOp3 (a0 a1 a2 a3 a4 a5 : Int) : ∃ b, spec_IsValidOp.f 3 a0 a1 a2 a3 a4 a5 = some b ∧ impl_IsValidOp.f 3 a0 a1 a2 a3 a4 a5 = some b := by
  by_cases c1 : a0 = 1
  · subst c1
    by_cases h3 : a3 = 0 <;> by_cases h4 : a4 = 0 <;> by_cases h5 : a5 = 0 <;> by_cases h1 : 1 ≤ a1 <;> by_cases h1' : a1 ≤ 9 <;> by_cases h2 : 1 ≤ a2 <;> by_cases h2' : a2 ≤ 4 <;>
      simp [spec_IsValidOp.f, impl_IsValidOp.f, spec_IsValidOp.j1, spec_IsValidOp.j2, impl_IsValidOp.j0, impl_isID.f, impl_isScheme.f, l1In_eq, in_eq, h3, h4, h5, h1, h1', h2, h2', eq_comm (a := (0 : Int))]
  by_cases c2 : a0 = 2
  · subst c2
    by_cases h3 : a2 = 0 <;> by_cases h4 : a4 = 0 <;> by_cases h5 : a5 = 0 <;> by_cases h1 : 1 ≤ a1 <;> by_cases h1' : a1 ≤ 9 <;> by_cases h2 : 0 ≤ a3 <;> by_cases h2' : a3 ≤ 5 <;>
      simp [spec_IsValidOp.f, impl_IsValidOp.f, spec_IsValidOp.j1, spec_IsValidOp.j2, impl_IsValidOp.j0, impl_isID.f, impl_isKey.f, l1In_eq, in_eq, h3, h4, h5, h1, h1', h2, h2', eq_comm (a := (0 : Int))]
  by_cases c3 : a0 = 3
  · subst c3
    by_cases h3 : a2 = 0 <;> by_cases h4 : a4 = 0 <;> by_cases h1 : 1 ≤ a1 <;> by_cases h1' : a1 ≤ 9 <;> by_cases h2 : 0 ≤ a3 <;> by_cases h2' : a3 ≤ 5 <;> by_cases h6 : -1 ≤ a5 <;> by_cases h6' : a5 ≤ 99 <;>
      simp [spec_IsValidOp.f, impl_IsValidOp.f, spec_IsValidOp.j1, spec_IsValidOp.j2, impl_IsValidOp.j0, impl_isID.f, impl_isKey.f, impl_isValue.f, l1In_eq, in_eq, h3, h4, h1, h1', h2, h2', h6, h6', eq_comm (a := (0 : Int))]
  by_cases c4 : a0 = 4
  · subst c4
    by_cases h3 : a2 = 0 <;> by_cases h5 : a5 = 0 <;> by_cases h1 : 1 ≤ a1 <;> by_cases h1' : a1 ≤ 9 <;> by_cases h2 : 0 ≤ a3 <;> by_cases h2' : a3 ≤ 5 <;> by_cases h6 : a3 ≤ a4 <;> by_cases h6' : a4 ≤ 5 <;>
      simp [spec_IsValidOp.f, impl_IsValidOp.f, spec_IsValidOp.j1, spec_IsValidOp.j2, impl_IsValidOp.j0, impl_isID.f, impl_isKey.f, l1In_eq, in_eq, h3, h5, h1, h1', h2, h2', h6, h6', eq_comm (a := (0 : Int))]
  by_cases c5 : a0 = 5
  · subst c5
    by_cases h2 : a2 = 0 <;> by_cases h3 : a3 = 0 <;> by_cases h4 : a4 = 0 <;> by_cases h5 : a5 = 0 <;> by_cases h1 : 1 ≤ a1 <;> by_cases h1' : a1 ≤ 9 <;>
      simp [spec_IsValidOp.f, impl_IsValidOp.f, spec_IsValidOp.j1, spec_IsValidOp.j2, spec_IsValidOp.j0, impl_IsValidOp.j0, impl_isID.f, impl_isKey.f, l1In_eq, in_eq, h2, h3, h4, h5, h1, h1', eq_comm (a := (0 : Int))]
  by_cases c6 : a0 = 6
  · subst c6
    by_cases h2 : a2 = 0 <;> by_cases h3 : a3 = 0 <;> by_cases h4 : a4 = 0 <;> by_cases h5 : a5 = 0 <;> by_cases h1 : 1 ≤ a1 <;> by_cases h1' : a1 ≤ 9 <;>
      simp [spec_IsValidOp.f, impl_IsValidOp.f, spec_IsValidOp.j1, spec_IsValidOp.j2, spec_IsValidOp.j0, impl_IsValidOp.j0, impl_isID.f, impl_isKey.f, l1In_eq, in_eq, h2, h3, h4, h5, h1, h1', eq_comm (a := (0 : Int))]
  · have hk : (decide (1 ≤ a0) && decide (a0 ≤ 6)) = false := by
      by_cases d1 : 1 ≤ a0 <;> by_cases d2 : a0 ≤ 6 <;> simp [d1, d2] <;> omega
    simp [spec_IsValidOp.f, impl_IsValidOp.f, spec_IsValidOp.j0, impl_IsValidOp.j0, in_eq, c1, c2, c3, c4, c5, c6, hk]
theorem both_IsValidOp (a0 a1 a2 a3 a4 a5 : Int) : ∃ b, Ev (fun k => spec_IsValidOp.f k a0 a1 a2 a3 a4 a5) b ∧ Ev (fun k => impl_IsValidOp.f k a0 a1 a2 a3 a4 a5) b := by
  obtain ⟨b, h1, h2⟩ := both_IsValidOp3 a0 a1 a2 a3 a4 a5
  exact ⟨b, Ev.of (spec_IsValidOp.mono _ _ _ _ _ _) h1, Ev.of (impl_IsValidOp.mono _ _ _ _ _ _) h2⟩
theorem FnExactIsValidOp : ∀ (x0_0 : Int) (x0_1 : Int) (x0_2 : Int) (x0_3 : Int) (x0_4 : Int) (x0_5 : Int), (okInt .i64) x0_0 → (okInt .i64) x0_1 → (okInt .i64) x0_2 → (okInt .i64) x0_3 → (okInt .i64) x0_4 → (okInt .i64) x0_5 → ∃ k, laws_FnExactIsValidOp.f k x0_0 x0_1 x0_2 x0_3 x0_4 x0_5 = some true := by
  intro a0 a1 a2 a3 a4 a5 _ _ _ _ _ _
  apply Ev.rounds
  unfold laws_FnExactIsValidOp.f
  obtain ⟨b, e1, e2⟩ := both_IsValidOp a0 a1 a2 a3 a4 a5
  simp only [laws_toOp.f, Option.bind_some]
  refine Ev.bind e1 (Ev.bind e2 ?_)
  simp only [bne_self_eq_false, Bool.false_eq_true, if_false]
  exact Ev.now _

end Go.Proofs.Ytfjhhmgbmfjloaa.Pure
