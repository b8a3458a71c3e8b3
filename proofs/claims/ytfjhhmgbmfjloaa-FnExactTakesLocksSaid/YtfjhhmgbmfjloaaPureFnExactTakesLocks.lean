/- The plain statement of FnExactTakesLocks: both functions give the same bool. No condition. -/
import Derived.Test.YtfjhhmgbmfjloaaPFnExactTakesLocksx1
import Derived.Test.YtfjhhmgbmfjloaaPlain
namespace Go.Proofs.Ytfjhhmgbmfjloaa.Pure
open Go.RowKit Go.Proofs.Ytfjhhmgbmfjloaa.PFnExactTakesLocks Go.Proofs.YtfjhhmgbmfjloaaW.PrintWords Go.Proofs.YtfjhhmgbmfjloaaW.PrintLast Go.Proofs.Ytfjhhmgbmfjloaa.Plain
set_option linter.unusedVariables false
set_option linter.unusedSimpArgs false


theorem FnExactTakesLocks : laws_FnExactTakesLocks.Pure := by
  intro a _
  unfold laws_FnExactTakesLocks.f spec_TakesLocks.f impl_TakesLocks.f
  by_cases h : a = 1
  · simp [h]
  · simp [h]

end Go.Proofs.Ytfjhhmgbmfjloaa.Pure
