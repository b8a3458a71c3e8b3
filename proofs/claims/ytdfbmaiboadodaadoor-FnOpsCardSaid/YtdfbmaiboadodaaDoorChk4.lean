/- Each operation that may be written is read back by both parsers: reckoned case by case. No condition. -/
import Derived.Test.YtdfbmaiboadodaaDoorChk
namespace Go.Proofs.YtdfbmaiboadodaaDoor.Pure
open Go.RowKit Go.Proofs.YtdfbmaiboadodaaDoor.PFnOps Go.Proofs.YtdfbmaiboadodaaDoorW.PrintWords Go.Proofs.YtdfbmaiboadodaaDoorW.PrintLast
set_option linter.unusedVariables false
theorem chk341 : ∀ v : Fin 101, chk 3 1 0 4 0 (((v.val : Nat) : Int) - 1) = true := by decide +kernel
theorem chk342 : ∀ v : Fin 101, chk 3 2 0 4 0 (((v.val : Nat) : Int) - 1) = true := by decide +kernel
theorem chk343 : ∀ v : Fin 101, chk 3 3 0 4 0 (((v.val : Nat) : Int) - 1) = true := by decide +kernel
theorem chk344 : ∀ v : Fin 101, chk 3 4 0 4 0 (((v.val : Nat) : Int) - 1) = true := by decide +kernel
theorem chk345 : ∀ v : Fin 101, chk 3 5 0 4 0 (((v.val : Nat) : Int) - 1) = true := by decide +kernel
theorem chk346 : ∀ v : Fin 101, chk 3 6 0 4 0 (((v.val : Nat) : Int) - 1) = true := by decide +kernel
theorem chk347 : ∀ v : Fin 101, chk 3 7 0 4 0 (((v.val : Nat) : Int) - 1) = true := by decide +kernel
theorem chk348 : ∀ v : Fin 101, chk 3 8 0 4 0 (((v.val : Nat) : Int) - 1) = true := by decide +kernel
theorem chk349 : ∀ v : Fin 101, chk 3 9 0 4 0 (((v.val : Nat) : Int) - 1) = true := by decide +kernel
theorem chk34 (i v : Int) (h0 : 1 ≤ i) (h1 : i ≤ 9) (g0 : -1 ≤ v) (g1 : v ≤ 99) : chk 3 i 0 4 0 v = true := by
  obtain ⟨m, rfl⟩ : ∃ m : Nat, v = (m : Int) - 1 := ⟨(v + 1).toNat, by omega⟩
  have hm : m < 101 := by omega
  rcases (show i = 1 ∨ i = 2 ∨ i = 3 ∨ i = 4 ∨ i = 5 ∨ i = 6 ∨ i = 7 ∨ i = 8 ∨ i = 9 by omega) with rfl | rfl | rfl | rfl | rfl | rfl | rfl | rfl | rfl
  · exact chk341 ⟨m, hm⟩
  · exact chk342 ⟨m, hm⟩
  · exact chk343 ⟨m, hm⟩
  · exact chk344 ⟨m, hm⟩
  · exact chk345 ⟨m, hm⟩
  · exact chk346 ⟨m, hm⟩
  · exact chk347 ⟨m, hm⟩
  · exact chk348 ⟨m, hm⟩
  · exact chk349 ⟨m, hm⟩
end Go.Proofs.YtdfbmaiboadodaaDoor.Pure
