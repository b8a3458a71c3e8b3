/- Each operation that may be written is read back by both parsers: reckoned case by case. No condition. -/
import Derived.Test.YtdfbmaiboadodaaDoorChk
namespace Go.Proofs.YtdfbmaiboadodaaDoor.Pure
open Go.RowKit Go.Proofs.YtdfbmaiboadodaaDoor.PFnOps Go.Proofs.YtdfbmaiboadodaaDoorW.PrintWords Go.Proofs.YtdfbmaiboadodaaDoorW.PrintLast
set_option linter.unusedVariables false
theorem chk321 : ∀ v : Fin 101, chk 3 1 0 2 0 (((v.val : Nat) : Int) - 1) = true := by decide +kernel
theorem chk322 : ∀ v : Fin 101, chk 3 2 0 2 0 (((v.val : Nat) : Int) - 1) = true := by decide +kernel
theorem chk323 : ∀ v : Fin 101, chk 3 3 0 2 0 (((v.val : Nat) : Int) - 1) = true := by decide +kernel
theorem chk324 : ∀ v : Fin 101, chk 3 4 0 2 0 (((v.val : Nat) : Int) - 1) = true := by decide +kernel
theorem chk325 : ∀ v : Fin 101, chk 3 5 0 2 0 (((v.val : Nat) : Int) - 1) = true := by decide +kernel
theorem chk326 : ∀ v : Fin 101, chk 3 6 0 2 0 (((v.val : Nat) : Int) - 1) = true := by decide +kernel
theorem chk327 : ∀ v : Fin 101, chk 3 7 0 2 0 (((v.val : Nat) : Int) - 1) = true := by decide +kernel
theorem chk328 : ∀ v : Fin 101, chk 3 8 0 2 0 (((v.val : Nat) : Int) - 1) = true := by decide +kernel
theorem chk329 : ∀ v : Fin 101, chk 3 9 0 2 0 (((v.val : Nat) : Int) - 1) = true := by decide +kernel
theorem chk32 (i v : Int) (h0 : 1 ≤ i) (h1 : i ≤ 9) (g0 : -1 ≤ v) (g1 : v ≤ 99) : chk 3 i 0 2 0 v = true := by
  obtain ⟨m, rfl⟩ : ∃ m : Nat, v = (m : Int) - 1 := ⟨(v + 1).toNat, by omega⟩
  have hm : m < 101 := by omega
  rcases (show i = 1 ∨ i = 2 ∨ i = 3 ∨ i = 4 ∨ i = 5 ∨ i = 6 ∨ i = 7 ∨ i = 8 ∨ i = 9 by omega) with rfl | rfl | rfl | rfl | rfl | rfl | rfl | rfl | rfl
  · exact chk321 ⟨m, hm⟩
  · exact chk322 ⟨m, hm⟩
  · exact chk323 ⟨m, hm⟩
  · exact chk324 ⟨m, hm⟩
  · exact chk325 ⟨m, hm⟩
  · exact chk326 ⟨m, hm⟩
  · exact chk327 ⟨m, hm⟩
  · exact chk328 ⟨m, hm⟩
  · exact chk329 ⟨m, hm⟩
end Go.Proofs.YtdfbmaiboadodaaDoor.Pure
