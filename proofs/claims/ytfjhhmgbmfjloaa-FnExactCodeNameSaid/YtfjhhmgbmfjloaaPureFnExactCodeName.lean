/- The plain statement of FnExactCodeName: both functions give the same text. No condition. -/
import Derived.Test.YtfjhhmgbmfjloaaPFnExactCodeNamex1
import Derived.Test.YtfjhhmgbmfjloaaPlain
namespace Go.Proofs.Ytfjhhmgbmfjloaa.Pure
open Go.RowKit Go.Proofs.Ytfjhhmgbmfjloaa.PFnExactCodeName Go.Proofs.YtfjhhmgbmfjloaaW.PrintWords Go.Proofs.YtfjhhmgbmfjloaaW.PrintLast Go.Proofs.Ytfjhhmgbmfjloaa.Plain
set_option linter.unusedVariables false
set_option linter.unusedSimpArgs false


theorem FnExactCodeName : laws_FnExactCodeName.Pure := by
  intro a _
  unfold laws_FnExactCodeName.f spec_CodeName.f impl_CodeName.f spec_l1In.f impl_in.f
  by_cases h : 0 ≤ a
  · by_cases h2 : a ≤ 6
    · have : a < 7 := by omega
      simp [h, h2, this]
    · simp [h, h2]
  · simp [h]

end Go.Proofs.Ytfjhhmgbmfjloaa.Pure
