/- Each operation that may be written is read back by both parsers: reckoned case by case. No condition. -/
import Derived.Test.YtdfbmaiboadodaaDoorChk
namespace Go.Proofs.YtdfbmaiboadodaaDoor.Pure
open Go.RowKit Go.Proofs.YtdfbmaiboadodaaDoor.PFnOps Go.Proofs.YtdfbmaiboadodaaDoorW.PrintWords Go.Proofs.YtdfbmaiboadodaaDoorW.PrintLast
set_option linter.unusedVariables false
theorem chk331 : ∀ v : Fin 101, chk 3 1 0 3 0 (((v.val : Nat) : Int) - 1) = true := by decide +kernel
theorem chk332 : ∀ v : Fin 101, chk 3 2 0 3 0 (((v.val : Nat) : Int) - 1) = true := by decide +kernel
theorem chk333 : ∀ v : Fin 101, chk 3 3 0 3 0 (((v.val : Nat) : Int) - 1) = true := by decide +kernel
theorem chk334 : ∀ v : Fin 101, chk 3 4 0 3 0 (((v.val : Nat) : Int) - 1) = true := by decide +kernel
theorem chk335 : ∀ v : Fin 101, chk 3 5 0 3 0 (((v.val : Nat) : Int) - 1) = true := by decide +kernel
theorem chk336 : ∀ v : Fin 101, chk 3 6 0 3 0 (((v.val : Nat) : Int) - 1) = true := by decide +kernel
theorem chk337 : ∀ v : Fin 101, chk 3 7 0 3 0 (((v.val : Nat) : Int) - 1) = true := by decide +kernel
theorem chk338 : ∀ v : Fin 101, chk 3 8 0 3 0 (((v.val : Nat) : Int) - 1) = true := by decide +kernel
theorem chk339 : ∀ v : Fin 101, chk 3 9 0 3 0 (((v.val : Nat) : Int) - 1) = true := by decide +kernel
theorem chk33 (i v : Int) (h0 : 1 ≤ i) (h1 : i ≤ 9) (g0 : -1 ≤ v) (g1 : v ≤ 99) : chk 3 i 0 3 0 v = true := by
  obtain ⟨m, rfl⟩ : ∃ m : Nat, v = (m : Int) - 1 := ⟨(v + 1).toNat, by omega⟩
  have hm : m < 101 := by omega
  rcases (show i = 1 ∨ i = 2 ∨ i = 3 ∨ i = 4 ∨ i = 5 ∨ i = 6 ∨ i = 7 ∨ i = 8 ∨ i = 9 by omega) with rfl | rfl | rfl | rfl | rfl | rfl | rfl | rfl | rfl
  · exact chk331 ⟨m, hm⟩
  · exact chk332 ⟨m, hm⟩
  · exact chk333 ⟨m, hm⟩
  · exact chk334 ⟨m, hm⟩
  · exact chk335 ⟨m, hm⟩
  · exact chk336 ⟨m, hm⟩
  · exact chk337 ⟨m, hm⟩
  · exact chk338 ⟨m, hm⟩
  · exact chk339 ⟨m, hm⟩
end Go.Proofs.YtdfbmaiboadodaaDoor.Pure
