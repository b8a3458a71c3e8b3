/- Each operation that may be written is read back by both parsers: reckoned case by case. No condition. -/
import Derived.Test.YtdfbmaiboadodaaDoorChk
namespace Go.Proofs.YtdfbmaiboadodaaDoor.Pure
open Go.RowKit Go.Proofs.YtdfbmaiboadodaaDoor.PFnOps Go.Proofs.YtdfbmaiboadodaaDoorW.PrintWords Go.Proofs.YtdfbmaiboadodaaDoorW.PrintLast
set_option linter.unusedVariables false
theorem chk351 : ∀ v : Fin 101, chk 3 1 0 5 0 (((v.val : Nat) : Int) - 1) = true := by decide +kernel
theorem chk352 : ∀ v : Fin 101, chk 3 2 0 5 0 (((v.val : Nat) : Int) - 1) = true := by decide +kernel
theorem chk353 : ∀ v : Fin 101, chk 3 3 0 5 0 (((v.val : Nat) : Int) - 1) = true := by decide +kernel
theorem chk354 : ∀ v : Fin 101, chk 3 4 0 5 0 (((v.val : Nat) : Int) - 1) = true := by decide +kernel
theorem chk355 : ∀ v : Fin 101, chk 3 5 0 5 0 (((v.val : Nat) : Int) - 1) = true := by decide +kernel
theorem chk356 : ∀ v : Fin 101, chk 3 6 0 5 0 (((v.val : Nat) : Int) - 1) = true := by decide +kernel
theorem chk357 : ∀ v : Fin 101, chk 3 7 0 5 0 (((v.val : Nat) : Int) - 1) = true := by decide +kernel
theorem chk358 : ∀ v : Fin 101, chk 3 8 0 5 0 (((v.val : Nat) : Int) - 1) = true := by decide +kernel
theorem chk359 : ∀ v : Fin 101, chk 3 9 0 5 0 (((v.val : Nat) : Int) - 1) = true := by decide +kernel
theorem chk35 (i v : Int) (h0 : 1 ≤ i) (h1 : i ≤ 9) (g0 : -1 ≤ v) (g1 : v ≤ 99) : chk 3 i 0 5 0 v = true := by
  obtain ⟨m, rfl⟩ : ∃ m : Nat, v = (m : Int) - 1 := ⟨(v + 1).toNat, by omega⟩
  have hm : m < 101 := by omega
  rcases (show i = 1 ∨ i = 2 ∨ i = 3 ∨ i = 4 ∨ i = 5 ∨ i = 6 ∨ i = 7 ∨ i = 8 ∨ i = 9 by omega) with rfl | rfl | rfl | rfl | rfl | rfl | rfl | rfl | rfl
  · exact chk351 ⟨m, hm⟩
  · exact chk352 ⟨m, hm⟩
  · exact chk353 ⟨m, hm⟩
  · exact chk354 ⟨m, hm⟩
  · exact chk355 ⟨m, hm⟩
  · exact chk356 ⟨m, hm⟩
  · exact chk357 ⟨m, hm⟩
  · exact chk358 ⟨m, hm⟩
  · exact chk359 ⟨m, hm⟩
end Go.Proofs.YtdfbmaiboadodaaDoor.Pure
