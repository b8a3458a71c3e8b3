/- Each operation that may be written is read back by both parsers: reckoned case by case. No condition. -/
import Derived.Test.YtdfbmaiboadodaaDoorPFnOpsx7
import Derived.Test.YtdfbmaiboadodaaDoorPFnOpsx9
namespace Go.Proofs.YtdfbmaiboadodaaDoor.Pure
open Go.RowKit Go.Proofs.YtdfbmaiboadodaaDoor.PFnOps Go.Proofs.YtdfbmaiboadodaaDoorW.PrintWords Go.Proofs.YtdfbmaiboadodaaDoorW.PrintLast
set_option linter.unusedVariables false
abbrev O7 := Int × Int × Int × Int × Int × Int × Bool
def is7 (o : Option O7) (a0 a1 a2 a3 a4 a5 : Int) : Bool := o.elim false fun r => decide (r.1 = a0) && (decide (r.2.1 = a1) && (decide (r.2.2.1 = a2) && (decide (r.2.2.2.1 = a3) && (decide (r.2.2.2.2.1 = a4) && (decide (r.2.2.2.2.2.1 = a5) && r.2.2.2.2.2.2)))))
theorem is7_eq {o : Option O7} {a0 a1 a2 a3 a4 a5 : Int} (h : is7 o a0 a1 a2 a3 a4 a5 = true) : o = some (a0, a1, a2, a3, a4, a5, true) := by
  cases o with
  | none => simp [is7] at h
  | some r =>
    obtain ⟨b0, b1, b2, b3, b4, b5, b⟩ := r
    simp only [is7, Option.elim_some, Bool.and_eq_true, decide_eq_true_eq] at h
    obtain ⟨rfl, rfl, rfl, rfl, rfl, rfl, rfl⟩ := h
    rfl
def chk (a0 a1 a2 a3 a4 a5 : Int) : Bool := (spec_FormatOp.f 60 a0 a1 a2 a3 a4 a5).elim false (fun t => is7 (impl_ParseOp.f 60 t) a0 a1 a2 a3 a4 a5 && !t.data.toList.contains 59)
end Go.Proofs.YtdfbmaiboadodaaDoor.Pure
