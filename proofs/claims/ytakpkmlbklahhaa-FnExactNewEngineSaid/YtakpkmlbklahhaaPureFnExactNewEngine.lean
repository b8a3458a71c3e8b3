/- The plain statement of FnExactNewEngine: both functions make the engine whose six chains hold one version, the marks in it are held, a second call makes it anew. No condition. -/
import Derived.Test.YtakpkmlbklahhaaPFnExactNewEnginex10
import Derived.Test.YtakpkmlbklahhaaPlainW
namespace Go.Proofs.Ytakpkmlbklahhaa.Pure
open Go.RowKit Go.Proofs.Ytakpkmlbklahhaa.PFnExactNewEngine Go.Proofs.YtakpkmlbklahhaaW.PrintWords Go.Proofs.YtakpkmlbklahhaaW.PrintLast Go.Proofs.Ytakpkmlbklahhaa.Plain
set_option linter.unusedVariables false
set_option linter.unusedSimpArgs false


def NEv : S76 := ⟨0, -1, 0, 0, 1000⟩
def NEm (i : Int) : S76 := ⟨i, i + 1, i + 2, i + 3, i + 4⟩
theorem FnExactNewEngine : laws_FnExactNewEngine.Pure := by
  intro a0
  cases a0
  · exact ⟨20, false, [[NEv], [NEv], [NEv], [NEv], [NEv], [NEv]], [], [], [], 0, false, [[NEv], [NEv], [NEv], [NEv], [NEv], [NEv]], [], [], [], 0, 31, [[NEm 1], [NEm 6], [NEm 11], [NEm 16], [NEm 21], [NEm 26]], [], [], [], by kernel_rfl, by kernel_rfl, by kernel_rfl, by kernel_rfl, by kernel_rfl, by decide⟩
  · exact ⟨20, true, [[NEv], [NEv], [NEv], [NEv], [NEv], [NEv]], [], [], [], 0, true, [[NEv], [NEv], [NEv], [NEv], [NEv], [NEv]], [], [], [], 0, 31, [[NEm 1], [NEm 6], [NEm 11], [NEm 16], [NEm 21], [NEm 26]], [], [], [], by kernel_rfl, by kernel_rfl, by kernel_rfl, by kernel_rfl, by kernel_rfl, by decide⟩

end Go.Proofs.Ytakpkmlbklahhaa.Pure
