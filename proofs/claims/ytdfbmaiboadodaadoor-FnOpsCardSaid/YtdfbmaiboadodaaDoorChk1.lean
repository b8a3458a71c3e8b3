/- Each operation that may be written is read back by both parsers: reckoned case by case. No condition. -/
import Derived.Test.YtdfbmaiboadodaaDoorChk
namespace Go.Proofs.YtdfbmaiboadodaaDoor.Pure
open Go.RowKit Go.Proofs.YtdfbmaiboadodaaDoor.PFnOps Go.Proofs.YtdfbmaiboadodaaDoorW.PrintWords Go.Proofs.YtdfbmaiboadodaaDoorW.PrintLast
set_option linter.unusedVariables false
theorem chk311 : ∀ v : Fin 101, chk 3 1 0 1 0 (((v.val : Nat) : Int) - 1) = true := by decide +kernel
theorem chk312 : ∀ v : Fin 101, chk 3 2 0 1 0 (((v.val : Nat) : Int) - 1) = true := by decide +kernel
theorem chk313 : ∀ v : Fin 101, chk 3 3 0 1 0 (((v.val : Nat) : Int) - 1) = true := by decide +kernel
theorem chk314 : ∀ v : Fin 101, chk 3 4 0 1 0 (((v.val : Nat) : Int) - 1) = true := by decide +kernel
theorem chk315 : ∀ v : Fin 101, chk 3 5 0 1 0 (((v.val : Nat) : Int) - 1) = true := by decide +kernel
theorem chk316 : ∀ v : Fin 101, chk 3 6 0 1 0 (((v.val : Nat) : Int) - 1) = true := by decide +kernel
theorem chk317 : ∀ v : Fin 101, chk 3 7 0 1 0 (((v.val : Nat) : Int) - 1) = true := by decide +kernel
theorem chk318 : ∀ v : Fin 101, chk 3 8 0 1 0 (((v.val : Nat) : Int) - 1) = true := by decide +kernel
theorem chk319 : ∀ v : Fin 101, chk 3 9 0 1 0 (((v.val : Nat) : Int) - 1) = true := by decide +kernel
theorem chk31 (i v : Int) (h0 : 1 ≤ i) (h1 : i ≤ 9) (g0 : -1 ≤ v) (g1 : v ≤ 99) : chk 3 i 0 1 0 v = true := by
  obtain ⟨m, rfl⟩ : ∃ m : Nat, v = (m : Int) - 1 := ⟨(v + 1).toNat, by omega⟩
  have hm : m < 101 := by omega
  rcases (show i = 1 ∨ i = 2 ∨ i = 3 ∨ i = 4 ∨ i = 5 ∨ i = 6 ∨ i = 7 ∨ i = 8 ∨ i = 9 by omega) with rfl | rfl | rfl | rfl | rfl | rfl | rfl | rfl | rfl
  · exact chk311 ⟨m, hm⟩
  · exact chk312 ⟨m, hm⟩
  · exact chk313 ⟨m, hm⟩
  · exact chk314 ⟨m, hm⟩
  · exact chk315 ⟨m, hm⟩
  · exact chk316 ⟨m, hm⟩
  · exact chk317 ⟨m, hm⟩
  · exact chk318 ⟨m, hm⟩
  · exact chk319 ⟨m, hm⟩
end Go.Proofs.YtdfbmaiboadodaaDoor.Pure
