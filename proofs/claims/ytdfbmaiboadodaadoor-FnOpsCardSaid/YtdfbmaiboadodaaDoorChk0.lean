/- Each operation that may be written is read back by both parsers: reckoned case by case. No condition. -/
import Derived.Test.YtdfbmaiboadodaaDoorChk
namespace Go.Proofs.YtdfbmaiboadodaaDoor.Pure
open Go.RowKit Go.Proofs.YtdfbmaiboadodaaDoor.PFnOps Go.Proofs.YtdfbmaiboadodaaDoorW.PrintWords Go.Proofs.YtdfbmaiboadodaaDoorW.PrintLast
set_option linter.unusedVariables false
theorem chk301 : ∀ v : Fin 101, chk 3 1 0 0 0 (((v.val : Nat) : Int) - 1) = true := by decide +kernel
theorem chk302 : ∀ v : Fin 101, chk 3 2 0 0 0 (((v.val : Nat) : Int) - 1) = true := by decide +kernel
theorem chk303 : ∀ v : Fin 101, chk 3 3 0 0 0 (((v.val : Nat) : Int) - 1) = true := by decide +kernel
theorem chk304 : ∀ v : Fin 101, chk 3 4 0 0 0 (((v.val : Nat) : Int) - 1) = true := by decide +kernel
theorem chk305 : ∀ v : Fin 101, chk 3 5 0 0 0 (((v.val : Nat) : Int) - 1) = true := by decide +kernel
theorem chk306 : ∀ v : Fin 101, chk 3 6 0 0 0 (((v.val : Nat) : Int) - 1) = true := by decide +kernel
theorem chk307 : ∀ v : Fin 101, chk 3 7 0 0 0 (((v.val : Nat) : Int) - 1) = true := by decide +kernel
theorem chk308 : ∀ v : Fin 101, chk 3 8 0 0 0 (((v.val : Nat) : Int) - 1) = true := by decide +kernel
theorem chk309 : ∀ v : Fin 101, chk 3 9 0 0 0 (((v.val : Nat) : Int) - 1) = true := by decide +kernel
theorem chk30 (i v : Int) (h0 : 1 ≤ i) (h1 : i ≤ 9) (g0 : -1 ≤ v) (g1 : v ≤ 99) : chk 3 i 0 0 0 v = true := by
  obtain ⟨m, rfl⟩ : ∃ m : Nat, v = (m : Int) - 1 := ⟨(v + 1).toNat, by omega⟩
  have hm : m < 101 := by omega
  rcases (show i = 1 ∨ i = 2 ∨ i = 3 ∨ i = 4 ∨ i = 5 ∨ i = 6 ∨ i = 7 ∨ i = 8 ∨ i = 9 by omega) with rfl | rfl | rfl | rfl | rfl | rfl | rfl | rfl | rfl
  · exact chk301 ⟨m, hm⟩
  · exact chk302 ⟨m, hm⟩
  · exact chk303 ⟨m, hm⟩
  · exact chk304 ⟨m, hm⟩
  · exact chk305 ⟨m, hm⟩
  · exact chk306 ⟨m, hm⟩
  · exact chk307 ⟨m, hm⟩
  · exact chk308 ⟨m, hm⟩
  · exact chk309 ⟨m, hm⟩
end Go.Proofs.YtdfbmaiboadodaaDoor.Pure
