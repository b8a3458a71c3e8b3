/- Each operation that may be written is read back by both parsers: reckoned case by case. No condition. -/
import Derived.Test.YtdfbmaiboadodaaDoorChk
namespace Go.Proofs.YtdfbmaiboadodaaDoor.Pure
open Go.RowKit Go.Proofs.YtdfbmaiboadodaaDoor.PFnOps Go.Proofs.YtdfbmaiboadodaaDoorW.PrintWords Go.Proofs.YtdfbmaiboadodaaDoorW.PrintLast
set_option linter.unusedVariables false
theorem chk1 : ∀ i : Fin 10, 1 ≤ i.val → ∀ j : Fin 5, 1 ≤ j.val → chk 1 ((i.val : Nat) : Int) ((j.val : Nat) : Int) 0 0 0 = true := by decide +kernel
theorem chk2 : ∀ i : Fin 10, 1 ≤ i.val → ∀ j : Fin 6, chk 2 ((i.val : Nat) : Int) 0 ((j.val : Nat) : Int) 0 0 = true := by decide +kernel
theorem chk4 : ∀ i : Fin 10, 1 ≤ i.val → ∀ j l : Fin 6, j.val ≤ l.val → chk 4 ((i.val : Nat) : Int) 0 ((j.val : Nat) : Int) ((l.val : Nat) : Int) 0 = true := by decide +kernel
theorem chk56 : ∀ i : Fin 10, 1 ≤ i.val → chk 5 ((i.val : Nat) : Int) 0 0 0 0 = true ∧ chk 6 ((i.val : Nat) : Int) 0 0 0 0 = true := by decide +kernel
end Go.Proofs.YtdfbmaiboadodaaDoor.Pure
