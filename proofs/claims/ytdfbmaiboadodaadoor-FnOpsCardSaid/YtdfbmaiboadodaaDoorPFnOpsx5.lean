-- Printed by a program of mine (wip/myprint.py), which runs the printer of the kit with contracts of mine beside it.
import Derived.Test.YtdfbmaiboadodaaDoorPFnOpsx0
import Derived.Test.YtdfbmaiboadodaaDoorPFnOpsx4
namespace Go.Proofs.YtdfbmaiboadodaaDoor.PFnOps
open Go.RowKit Go.Proofs.YtdfbmaiboadodaaDoorW.PrintWords Go.Proofs.YtdfbmaiboadodaaDoorW.PrintLast Go.Proofs.YtdfbmaiboadodaaDoorW.PrintMore
attribute [local go_sem] max2_int min2_int max_two min_two max_three min_three max_four min_four   -- for this text's walks alone
set_option linter.unusedVariables false
set_option linter.unusedSimpArgs false

/-! ### impl_formatOp: function 19 -/
def impl_formatOp.f (a0_0 : Int) (a0_1 : Int) (a0_2 : Int) (a0_3 : Int) (a0_4 : Int) (a0_5 : Int) : Option (ByteArray) := if 0 ≤ (wrap64 (a0_0 - 1)) then (if (wrap64 (a0_0 - 1)) ≤ a0_0 then (if a0_0 ≤ 6 then ((impl_FormatInt.f a0_1).bind fun t233 => (if ((⟨#[98, 114, 119, 115, 99, 97]⟩ : ByteArray).extract ((wrap64 (a0_0 - 1)) : Int).toNat (a0_0 : Int).toNat).size + t233.size ≤ 9223372036854775807 then (if a0_0 = 1 then (if (((⟨#[98, 114, 119, 115, 99, 97]⟩ : ByteArray).extract ((wrap64 (a0_0 - 1)) : Int).toNat (a0_0 : Int).toNat) ++ t233).size + 1 ≤ 9223372036854775807 then ((impl_SchemeName.f a0_2).bind fun t234 => (if ((((⟨#[98, 114, 119, 115, 99, 97]⟩ : ByteArray).extract ((wrap64 (a0_0 - 1)) : Int).toNat (a0_0 : Int).toNat) ++ t233) ++ (⟨#[32]⟩ : ByteArray)).size + t234.size ≤ 9223372036854775807 then (some (((((⟨#[98, 114, 119, 115, 99, 97]⟩ : ByteArray).extract ((wrap64 (a0_0 - 1)) : Int).toNat (a0_0 : Int).toNat) ++ t233) ++ (⟨#[32]⟩ : ByteArray)) ++ t234)) else (none))) else (none)) else (if a0_0 = 2 then (if (((⟨#[98, 114, 119, 115, 99, 97]⟩ : ByteArray).extract ((wrap64 (a0_0 - 1)) : Int).toNat (a0_0 : Int).toNat) ++ t233).size + 1 ≤ 9223372036854775807 then ((impl_FormatInt.f a0_3).bind fun t235 => (if ((((⟨#[98, 114, 119, 115, 99, 97]⟩ : ByteArray).extract ((wrap64 (a0_0 - 1)) : Int).toNat (a0_0 : Int).toNat) ++ t233) ++ (⟨#[32]⟩ : ByteArray)).size + t235.size ≤ 9223372036854775807 then (some (((((⟨#[98, 114, 119, 115, 99, 97]⟩ : ByteArray).extract ((wrap64 (a0_0 - 1)) : Int).toNat (a0_0 : Int).toNat) ++ t233) ++ (⟨#[32]⟩ : ByteArray)) ++ t235)) else (none))) else (none)) else (if a0_0 = 3 then (if (((⟨#[98, 114, 119, 115, 99, 97]⟩ : ByteArray).extract ((wrap64 (a0_0 - 1)) : Int).toNat (a0_0 : Int).toNat) ++ t233).size + 1 ≤ 9223372036854775807 then ((impl_FormatInt.f a0_3).bind fun t236 => (if ((((⟨#[98, 114, 119, 115, 99, 97]⟩ : ByteArray).extract ((wrap64 (a0_0 - 1)) : Int).toNat (a0_0 : Int).toNat) ++ t233) ++ (⟨#[32]⟩ : ByteArray)).size + t236.size ≤ 9223372036854775807 then (if (((((⟨#[98, 114, 119, 115, 99, 97]⟩ : ByteArray).extract ((wrap64 (a0_0 - 1)) : Int).toNat (a0_0 : Int).toNat) ++ t233) ++ (⟨#[32]⟩ : ByteArray)) ++ t236).size + 1 ≤ 9223372036854775807 then ((impl_formatValue.f a0_5).bind fun t237 => (if ((((((⟨#[98, 114, 119, 115, 99, 97]⟩ : ByteArray).extract ((wrap64 (a0_0 - 1)) : Int).toNat (a0_0 : Int).toNat) ++ t233) ++ (⟨#[32]⟩ : ByteArray)) ++ t236) ++ (⟨#[32]⟩ : ByteArray)).size + t237.size ≤ 9223372036854775807 then (some (((((((⟨#[98, 114, 119, 115, 99, 97]⟩ : ByteArray).extract ((wrap64 (a0_0 - 1)) : Int).toNat (a0_0 : Int).toNat) ++ t233) ++ (⟨#[32]⟩ : ByteArray)) ++ t236) ++ (⟨#[32]⟩ : ByteArray)) ++ t237)) else (none))) else (none)) else (none))) else (none)) else (if a0_0 = 4 then (if (((⟨#[98, 114, 119, 115, 99, 97]⟩ : ByteArray).extract ((wrap64 (a0_0 - 1)) : Int).toNat (a0_0 : Int).toNat) ++ t233).size + 1 ≤ 9223372036854775807 then ((impl_FormatInt.f a0_3).bind fun t238 => (if ((((⟨#[98, 114, 119, 115, 99, 97]⟩ : ByteArray).extract ((wrap64 (a0_0 - 1)) : Int).toNat (a0_0 : Int).toNat) ++ t233) ++ (⟨#[32]⟩ : ByteArray)).size + t238.size ≤ 9223372036854775807 then (if (((((⟨#[98, 114, 119, 115, 99, 97]⟩ : ByteArray).extract ((wrap64 (a0_0 - 1)) : Int).toNat (a0_0 : Int).toNat) ++ t233) ++ (⟨#[32]⟩ : ByteArray)) ++ t238).size + 1 ≤ 9223372036854775807 then ((impl_FormatInt.f a0_4).bind fun t239 => (if ((((((⟨#[98, 114, 119, 115, 99, 97]⟩ : ByteArray).extract ((wrap64 (a0_0 - 1)) : Int).toNat (a0_0 : Int).toNat) ++ t233) ++ (⟨#[32]⟩ : ByteArray)) ++ t238) ++ (⟨#[32]⟩ : ByteArray)).size + t239.size ≤ 9223372036854775807 then (some (((((((⟨#[98, 114, 119, 115, 99, 97]⟩ : ByteArray).extract ((wrap64 (a0_0 - 1)) : Int).toNat (a0_0 : Int).toNat) ++ t233) ++ (⟨#[32]⟩ : ByteArray)) ++ t238) ++ (⟨#[32]⟩ : ByteArray)) ++ t239)) else (none))) else (none)) else (none))) else (none)) else (some (((⟨#[98, 114, 119, 115, 99, 97]⟩ : ByteArray).extract ((wrap64 (a0_0 - 1)) : Int).toNat (a0_0 : Int).toNat) ++ t233)))))) else (none))) else (none)) else (none)) else (none)
def impl_formatOp.T1 : Bool × List (List Nat × List Nat) := (true, [([], []), ([0], [0]), ([1], [1]), ([], []), ([3], [3]), ([2, 4], [2, 4]), ([], []), ([6], [6]), ([7], [7]), ([5, 8], [5, 8]), ([9, 8, 0, 1, 2, 3, 4, 5, 6, 7, 8, 9], [9])])
def impl_formatOp.B1 : List Nat := [0, 1, 3, 0, 8, 31, 0, 64, 192, 511, 1023]
theorem impl_formatOp.tab1 : rtab .any (opsOf Tryd.f19 1) = impl_formatOp.T1 := by kernel_rfl
theorem impl_formatOp.bits1 : waitsOk impl_formatOp.T1.2 impl_formatOp.B1 = true := by kernel_rfl
def impl_formatOp.T8 : Bool × List (List Nat × List Nat) := (true, [([], []), ([0], [0]), ([], []), ([2], [2]), ([3], [3]), ([1, 4], [1, 4]), ([5], [5]), ([], []), ([7], [7]), ([8, 4], [8]), ([6, 9], [6, 9]), ([10, 9, 0, 1, 2, 3, 4, 5, 6, 7, 8, 9, 10], [10])])
def impl_formatOp.B8 : List Nat := [0, 1, 0, 4, 12, 31, 63, 0, 128, 412, 1023, 2047]
theorem impl_formatOp.tab8 : rtab .any (opsOf Tryd.f19 8) = impl_formatOp.T8 := by kernel_rfl
theorem impl_formatOp.bits8 : waitsOk impl_formatOp.T8.2 impl_formatOp.B8 = true := by kernel_rfl
def impl_formatOp.T10 : Bool × List (List Nat × List Nat) := (true, [([], []), ([0], [0]), ([], []), ([2], [2]), ([3], [3]), ([1, 4], [1, 4]), ([5], [5]), ([], []), ([7], [7]), ([8, 4], [8]), ([6, 9], [6, 9]), ([10, 9, 0, 1, 2, 3, 4, 5, 6, 7, 8, 9, 10], [10])])
def impl_formatOp.B10 : List Nat := [0, 1, 0, 4, 12, 31, 63, 0, 128, 412, 1023, 2047]
theorem impl_formatOp.tab10 : rtab .any (opsOf Tryd.f19 10) = impl_formatOp.T10 := by kernel_rfl
theorem impl_formatOp.bits10 : waitsOk impl_formatOp.T10.2 impl_formatOp.B10 = true := by kernel_rfl
set_option maxHeartbeats 8000000 in
set_option maxRecDepth 100000 in
theorem impl_formatOp.calls (a0_0 : Int) (a0_1 : Int) (a0_2 : Int) (a0_3 : Int) (a0_4 : Int) (a0_5 : Int) (r : ByteArray) (w : World) (hTB : Tryd.TB w) (h : impl_formatOp.f a0_0 a0_1 a0_2 a0_3 a0_4 a0_5 = some r) :
  Calls Tryd.prog 19 #[.agg #[.int .i64 a0_0, .int .i64 a0_1, .int .i64 a0_2, .int .i64 a0_3, .int .i64 a0_4, .int .i64 a0_5]] w fun e w' => e = .returned (.string r) ∧ Below w.heap.size w w' := by
 have hu25 := Tryd.underlying25
 have HB := AM_ (Below.refl w.heap.size w)
 have H : (if 0 ≤ (wrap64 (a0_0 - 1)) then (if (wrap64 (a0_0 - 1)) ≤ a0_0 then (if a0_0 ≤ 6 then ((impl_FormatInt.f a0_1).bind fun t233 => (if ((⟨#[98, 114, 119, 115, 99, 97]⟩ : ByteArray).extract ((wrap64 (a0_0 - 1)) : Int).toNat (a0_0 : Int).toNat).size + t233.size ≤ 9223372036854775807 then (if a0_0 = 1 then (if (((⟨#[98, 114, 119, 115, 99, 97]⟩ : ByteArray).extract ((wrap64 (a0_0 - 1)) : Int).toNat (a0_0 : Int).toNat) ++ t233).size + 1 ≤ 9223372036854775807 then ((impl_SchemeName.f a0_2).bind fun t234 => (if ((((⟨#[98, 114, 119, 115, 99, 97]⟩ : ByteArray).extract ((wrap64 (a0_0 - 1)) : Int).toNat (a0_0 : Int).toNat) ++ t233) ++ (⟨#[32]⟩ : ByteArray)).size + t234.size ≤ 9223372036854775807 then (some (((((⟨#[98, 114, 119, 115, 99, 97]⟩ : ByteArray).extract ((wrap64 (a0_0 - 1)) : Int).toNat (a0_0 : Int).toNat) ++ t233) ++ (⟨#[32]⟩ : ByteArray)) ++ t234)) else (none))) else (none)) else (if a0_0 = 2 then (if (((⟨#[98, 114, 119, 115, 99, 97]⟩ : ByteArray).extract ((wrap64 (a0_0 - 1)) : Int).toNat (a0_0 : Int).toNat) ++ t233).size + 1 ≤ 9223372036854775807 then ((impl_FormatInt.f a0_3).bind fun t235 => (if ((((⟨#[98, 114, 119, 115, 99, 97]⟩ : ByteArray).extract ((wrap64 (a0_0 - 1)) : Int).toNat (a0_0 : Int).toNat) ++ t233) ++ (⟨#[32]⟩ : ByteArray)).size + t235.size ≤ 9223372036854775807 then (some (((((⟨#[98, 114, 119, 115, 99, 97]⟩ : ByteArray).extract ((wrap64 (a0_0 - 1)) : Int).toNat (a0_0 : Int).toNat) ++ t233) ++ (⟨#[32]⟩ : ByteArray)) ++ t235)) else (none))) else (none)) else (if a0_0 = 3 then (if (((⟨#[98, 114, 119, 115, 99, 97]⟩ : ByteArray).extract ((wrap64 (a0_0 - 1)) : Int).toNat (a0_0 : Int).toNat) ++ t233).size + 1 ≤ 9223372036854775807 then ((impl_FormatInt.f a0_3).bind fun t236 => (if ((((⟨#[98, 114, 119, 115, 99, 97]⟩ : ByteArray).extract ((wrap64 (a0_0 - 1)) : Int).toNat (a0_0 : Int).toNat) ++ t233) ++ (⟨#[32]⟩ : ByteArray)).size + t236.size ≤ 9223372036854775807 then (if (((((⟨#[98, 114, 119, 115, 99, 97]⟩ : ByteArray).extract ((wrap64 (a0_0 - 1)) : Int).toNat (a0_0 : Int).toNat) ++ t233) ++ (⟨#[32]⟩ : ByteArray)) ++ t236).size + 1 ≤ 9223372036854775807 then ((impl_formatValue.f a0_5).bind fun t237 => (if ((((((⟨#[98, 114, 119, 115, 99, 97]⟩ : ByteArray).extract ((wrap64 (a0_0 - 1)) : Int).toNat (a0_0 : Int).toNat) ++ t233) ++ (⟨#[32]⟩ : ByteArray)) ++ t236) ++ (⟨#[32]⟩ : ByteArray)).size + t237.size ≤ 9223372036854775807 then (some (((((((⟨#[98, 114, 119, 115, 99, 97]⟩ : ByteArray).extract ((wrap64 (a0_0 - 1)) : Int).toNat (a0_0 : Int).toNat) ++ t233) ++ (⟨#[32]⟩ : ByteArray)) ++ t236) ++ (⟨#[32]⟩ : ByteArray)) ++ t237)) else (none))) else (none)) else (none))) else (none)) else (if a0_0 = 4 then (if (((⟨#[98, 114, 119, 115, 99, 97]⟩ : ByteArray).extract ((wrap64 (a0_0 - 1)) : Int).toNat (a0_0 : Int).toNat) ++ t233).size + 1 ≤ 9223372036854775807 then ((impl_FormatInt.f a0_3).bind fun t238 => (if ((((⟨#[98, 114, 119, 115, 99, 97]⟩ : ByteArray).extract ((wrap64 (a0_0 - 1)) : Int).toNat (a0_0 : Int).toNat) ++ t233) ++ (⟨#[32]⟩ : ByteArray)).size + t238.size ≤ 9223372036854775807 then (if (((((⟨#[98, 114, 119, 115, 99, 97]⟩ : ByteArray).extract ((wrap64 (a0_0 - 1)) : Int).toNat (a0_0 : Int).toNat) ++ t233) ++ (⟨#[32]⟩ : ByteArray)) ++ t238).size + 1 ≤ 9223372036854775807 then ((impl_FormatInt.f a0_4).bind fun t239 => (if ((((((⟨#[98, 114, 119, 115, 99, 97]⟩ : ByteArray).extract ((wrap64 (a0_0 - 1)) : Int).toNat (a0_0 : Int).toNat) ++ t233) ++ (⟨#[32]⟩ : ByteArray)) ++ t238) ++ (⟨#[32]⟩ : ByteArray)).size + t239.size ≤ 9223372036854775807 then (some (((((((⟨#[98, 114, 119, 115, 99, 97]⟩ : ByteArray).extract ((wrap64 (a0_0 - 1)) : Int).toNat (a0_0 : Int).toNat) ++ t233) ++ (⟨#[32]⟩ : ByteArray)) ++ t238) ++ (⟨#[32]⟩ : ByteArray)) ++ t239)) else (none))) else (none)) else (none))) else (none)) else (some (((⟨#[98, 114, 119, 115, 99, 97]⟩ : ByteArray).extract ((wrap64 (a0_0 - 1)) : Int).toNat (a0_0 : Int).toNat) ++ t233)))))) else (none))) else (none)) else (none)) else (none)) = some r := h
 clear h
 obtain ⟨ji2, hji2⟩ : ∃ j_ : Int, (wrap64 (a0_0 - 1)) = j_ := ⟨_, rfl⟩
 replace H : (if 0 ≤ (ji2) then (if (ji2) ≤ a0_0 then (if a0_0 ≤ 6 then ((impl_FormatInt.f a0_1).bind fun t233 => (if ((⟨#[98, 114, 119, 115, 99, 97]⟩ : ByteArray).extract ((ji2) : Int).toNat (a0_0 : Int).toNat).size + t233.size ≤ 9223372036854775807 then (if a0_0 = 1 then (if (((⟨#[98, 114, 119, 115, 99, 97]⟩ : ByteArray).extract ((ji2) : Int).toNat (a0_0 : Int).toNat) ++ t233).size + 1 ≤ 9223372036854775807 then ((impl_SchemeName.f a0_2).bind fun t234 => (if ((((⟨#[98, 114, 119, 115, 99, 97]⟩ : ByteArray).extract ((ji2) : Int).toNat (a0_0 : Int).toNat) ++ t233) ++ (⟨#[32]⟩ : ByteArray)).size + t234.size ≤ 9223372036854775807 then (some (((((⟨#[98, 114, 119, 115, 99, 97]⟩ : ByteArray).extract ((ji2) : Int).toNat (a0_0 : Int).toNat) ++ t233) ++ (⟨#[32]⟩ : ByteArray)) ++ t234)) else (none))) else (none)) else (if a0_0 = 2 then (if (((⟨#[98, 114, 119, 115, 99, 97]⟩ : ByteArray).extract ((ji2) : Int).toNat (a0_0 : Int).toNat) ++ t233).size + 1 ≤ 9223372036854775807 then ((impl_FormatInt.f a0_3).bind fun t235 => (if ((((⟨#[98, 114, 119, 115, 99, 97]⟩ : ByteArray).extract ((ji2) : Int).toNat (a0_0 : Int).toNat) ++ t233) ++ (⟨#[32]⟩ : ByteArray)).size + t235.size ≤ 9223372036854775807 then (some (((((⟨#[98, 114, 119, 115, 99, 97]⟩ : ByteArray).extract ((ji2) : Int).toNat (a0_0 : Int).toNat) ++ t233) ++ (⟨#[32]⟩ : ByteArray)) ++ t235)) else (none))) else (none)) else (if a0_0 = 3 then (if (((⟨#[98, 114, 119, 115, 99, 97]⟩ : ByteArray).extract ((ji2) : Int).toNat (a0_0 : Int).toNat) ++ t233).size + 1 ≤ 9223372036854775807 then ((impl_FormatInt.f a0_3).bind fun t236 => (if ((((⟨#[98, 114, 119, 115, 99, 97]⟩ : ByteArray).extract ((ji2) : Int).toNat (a0_0 : Int).toNat) ++ t233) ++ (⟨#[32]⟩ : ByteArray)).size + t236.size ≤ 9223372036854775807 then (if (((((⟨#[98, 114, 119, 115, 99, 97]⟩ : ByteArray).extract ((ji2) : Int).toNat (a0_0 : Int).toNat) ++ t233) ++ (⟨#[32]⟩ : ByteArray)) ++ t236).size + 1 ≤ 9223372036854775807 then ((impl_formatValue.f a0_5).bind fun t237 => (if ((((((⟨#[98, 114, 119, 115, 99, 97]⟩ : ByteArray).extract ((ji2) : Int).toNat (a0_0 : Int).toNat) ++ t233) ++ (⟨#[32]⟩ : ByteArray)) ++ t236) ++ (⟨#[32]⟩ : ByteArray)).size + t237.size ≤ 9223372036854775807 then (some (((((((⟨#[98, 114, 119, 115, 99, 97]⟩ : ByteArray).extract ((ji2) : Int).toNat (a0_0 : Int).toNat) ++ t233) ++ (⟨#[32]⟩ : ByteArray)) ++ t236) ++ (⟨#[32]⟩ : ByteArray)) ++ t237)) else (none))) else (none)) else (none))) else (none)) else (if a0_0 = 4 then (if (((⟨#[98, 114, 119, 115, 99, 97]⟩ : ByteArray).extract ((ji2) : Int).toNat (a0_0 : Int).toNat) ++ t233).size + 1 ≤ 9223372036854775807 then ((impl_FormatInt.f a0_3).bind fun t238 => (if ((((⟨#[98, 114, 119, 115, 99, 97]⟩ : ByteArray).extract ((ji2) : Int).toNat (a0_0 : Int).toNat) ++ t233) ++ (⟨#[32]⟩ : ByteArray)).size + t238.size ≤ 9223372036854775807 then (if (((((⟨#[98, 114, 119, 115, 99, 97]⟩ : ByteArray).extract ((ji2) : Int).toNat (a0_0 : Int).toNat) ++ t233) ++ (⟨#[32]⟩ : ByteArray)) ++ t238).size + 1 ≤ 9223372036854775807 then ((impl_FormatInt.f a0_4).bind fun t239 => (if ((((((⟨#[98, 114, 119, 115, 99, 97]⟩ : ByteArray).extract ((ji2) : Int).toNat (a0_0 : Int).toNat) ++ t233) ++ (⟨#[32]⟩ : ByteArray)) ++ t238) ++ (⟨#[32]⟩ : ByteArray)).size + t239.size ≤ 9223372036854775807 then (some (((((((⟨#[98, 114, 119, 115, 99, 97]⟩ : ByteArray).extract ((ji2) : Int).toNat (a0_0 : Int).toNat) ++ t233) ++ (⟨#[32]⟩ : ByteArray)) ++ t238) ++ (⟨#[32]⟩ : ByteArray)) ++ t239)) else (none))) else (none)) else (none))) else (none)) else (some (((⟨#[98, 114, 119, 115, 99, 97]⟩ : ByteArray).extract ((ji2) : Int).toNat (a0_0 : Int).toNat) ++ t233)))))) else (none))) else (none)) else (none)) else (none)) = some r := by first | (rw [hji2] at H; exact H) | (simp only [hji2] at H ⊢; exact H)
 have hji2w : (IntKind.i64.wrap (a0_0 - 1)) = ji2 := (i64_w _).trans hji2
 by_cases c3 : 0 ≤ (ji2)
 rotate_left
 ·rw [if_neg c3] at H
  exact absurd H (by simp)
 rw [if_pos c3] at H
 have c3b0 := eq_true c3
 have c3b1 : decide (0 ≤ (ji2)) = true := decide_eq_true c3
 clear c3
 by_cases c4 : (ji2) ≤ a0_0
 rotate_left
 ·rw [if_neg c4] at H
  exact absurd H (by simp)
 rw [if_pos c4] at H
 have c4b0 := eq_true c4
 have c4b1 : decide ((ji2) ≤ a0_0) = true := decide_eq_true c4
 clear c4
 by_cases c5 : a0_0 ≤ 6
 rotate_left
 ·rw [if_neg c5] at H
  exact absurd H (by simp)
 rw [if_pos c5] at H
 have c5b0 := eq_true c5
 have c5b1 : decide (a0_0 ≤ 6) = true := decide_eq_true c5
 clear c5
 replace H := Option.bind_eq_some_iff.mp H
 obtain ⟨t233, A60, H⟩ := H
 replace H : (if ((⟨#[98, 114, 119, 115, 99, 97]⟩ : ByteArray).extract ((ji2) : Int).toNat (a0_0 : Int).toNat).size + t233.size ≤ 9223372036854775807 then (if a0_0 = 1 then (if (((⟨#[98, 114, 119, 115, 99, 97]⟩ : ByteArray).extract ((ji2) : Int).toNat (a0_0 : Int).toNat) ++ t233).size + 1 ≤ 9223372036854775807 then ((impl_SchemeName.f a0_2).bind fun t234 => (if ((((⟨#[98, 114, 119, 115, 99, 97]⟩ : ByteArray).extract ((ji2) : Int).toNat (a0_0 : Int).toNat) ++ t233) ++ (⟨#[32]⟩ : ByteArray)).size + t234.size ≤ 9223372036854775807 then (some (((((⟨#[98, 114, 119, 115, 99, 97]⟩ : ByteArray).extract ((ji2) : Int).toNat (a0_0 : Int).toNat) ++ t233) ++ (⟨#[32]⟩ : ByteArray)) ++ t234)) else (none))) else (none)) else (if a0_0 = 2 then (if (((⟨#[98, 114, 119, 115, 99, 97]⟩ : ByteArray).extract ((ji2) : Int).toNat (a0_0 : Int).toNat) ++ t233).size + 1 ≤ 9223372036854775807 then ((impl_FormatInt.f a0_3).bind fun t235 => (if ((((⟨#[98, 114, 119, 115, 99, 97]⟩ : ByteArray).extract ((ji2) : Int).toNat (a0_0 : Int).toNat) ++ t233) ++ (⟨#[32]⟩ : ByteArray)).size + t235.size ≤ 9223372036854775807 then (some (((((⟨#[98, 114, 119, 115, 99, 97]⟩ : ByteArray).extract ((ji2) : Int).toNat (a0_0 : Int).toNat) ++ t233) ++ (⟨#[32]⟩ : ByteArray)) ++ t235)) else (none))) else (none)) else (if a0_0 = 3 then (if (((⟨#[98, 114, 119, 115, 99, 97]⟩ : ByteArray).extract ((ji2) : Int).toNat (a0_0 : Int).toNat) ++ t233).size + 1 ≤ 9223372036854775807 then ((impl_FormatInt.f a0_3).bind fun t236 => (if ((((⟨#[98, 114, 119, 115, 99, 97]⟩ : ByteArray).extract ((ji2) : Int).toNat (a0_0 : Int).toNat) ++ t233) ++ (⟨#[32]⟩ : ByteArray)).size + t236.size ≤ 9223372036854775807 then (if (((((⟨#[98, 114, 119, 115, 99, 97]⟩ : ByteArray).extract ((ji2) : Int).toNat (a0_0 : Int).toNat) ++ t233) ++ (⟨#[32]⟩ : ByteArray)) ++ t236).size + 1 ≤ 9223372036854775807 then ((impl_formatValue.f a0_5).bind fun t237 => (if ((((((⟨#[98, 114, 119, 115, 99, 97]⟩ : ByteArray).extract ((ji2) : Int).toNat (a0_0 : Int).toNat) ++ t233) ++ (⟨#[32]⟩ : ByteArray)) ++ t236) ++ (⟨#[32]⟩ : ByteArray)).size + t237.size ≤ 9223372036854775807 then (some (((((((⟨#[98, 114, 119, 115, 99, 97]⟩ : ByteArray).extract ((ji2) : Int).toNat (a0_0 : Int).toNat) ++ t233) ++ (⟨#[32]⟩ : ByteArray)) ++ t236) ++ (⟨#[32]⟩ : ByteArray)) ++ t237)) else (none))) else (none)) else (none))) else (none)) else (if a0_0 = 4 then (if (((⟨#[98, 114, 119, 115, 99, 97]⟩ : ByteArray).extract ((ji2) : Int).toNat (a0_0 : Int).toNat) ++ t233).size + 1 ≤ 9223372036854775807 then ((impl_FormatInt.f a0_3).bind fun t238 => (if ((((⟨#[98, 114, 119, 115, 99, 97]⟩ : ByteArray).extract ((ji2) : Int).toNat (a0_0 : Int).toNat) ++ t233) ++ (⟨#[32]⟩ : ByteArray)).size + t238.size ≤ 9223372036854775807 then (if (((((⟨#[98, 114, 119, 115, 99, 97]⟩ : ByteArray).extract ((ji2) : Int).toNat (a0_0 : Int).toNat) ++ t233) ++ (⟨#[32]⟩ : ByteArray)) ++ t238).size + 1 ≤ 9223372036854775807 then ((impl_FormatInt.f a0_4).bind fun t239 => (if ((((((⟨#[98, 114, 119, 115, 99, 97]⟩ : ByteArray).extract ((ji2) : Int).toNat (a0_0 : Int).toNat) ++ t233) ++ (⟨#[32]⟩ : ByteArray)) ++ t238) ++ (⟨#[32]⟩ : ByteArray)).size + t239.size ≤ 9223372036854775807 then (some (((((((⟨#[98, 114, 119, 115, 99, 97]⟩ : ByteArray).extract ((ji2) : Int).toNat (a0_0 : Int).toNat) ++ t233) ++ (⟨#[32]⟩ : ByteArray)) ++ t238) ++ (⟨#[32]⟩ : ByteArray)) ++ t239)) else (none))) else (none)) else (none))) else (none)) else (some (((⟨#[98, 114, 119, 115, 99, 97]⟩ : ByteArray).extract ((ji2) : Int).toNat (a0_0 : Int).toNat) ++ t233)))))) else (none)) = some r := H
 have A6 := AM_ A60
 clear A60
 by_cases c7 : ((⟨#[98, 114, 119, 115, 99, 97]⟩ : ByteArray).extract ((ji2) : Int).toNat (a0_0 : Int).toNat).size + t233.size ≤ 9223372036854775807
 rotate_left
 ·rw [if_neg c7] at H
  exact absurd H (by simp)
 rw [if_pos c7] at H
 have c7b0 := eq_true c7
 have c7b1 : decide (((⟨#[98, 114, 119, 115, 99, 97]⟩ : ByteArray).extract ((ji2) : Int).toNat (a0_0 : Int).toNat).size + t233.size ≤ 9223372036854775807) = true := decide_eq_true c7
 try have c7b2 : (9223372036854775807 < ((⟨#[98, 114, 119, 115, 99, 97]⟩ : ByteArray).extract ((ji2) : Int).toNat (a0_0 : Int).toNat).size + t233.size) = False := eq_false (Nat.not_lt.2 c7)
 try have c7b3 : (9223372036854775807 < (a0_0 : Int).toNat - ((ji2) : Int).toNat + t233.size) = False := by have h_ := c7; have hq_ : a0_0 ≤ 6 := of_decide_eq_true (by assumption); have h1_ : (⟨#[32]⟩ : ByteArray).size = 1 := rfl; have hl_ : (⟨#[98, 114, 119, 115, 99, 97]⟩ : ByteArray).size = 6 := rfl; simp only [ByteArray.size_append, ByteArray.size_extract, h1_, hl_] at h_; exact eq_false (by omega)
 by_cases c8 : a0_0 = 1
 ·rw [if_pos c8] at H
  have c8b0 : (a0_0 == 1) = true := beq_iff_eq.mpr c8
  have c8b1 : (a0_0 != 1) = false := bne_eq_false_iff_eq.mpr c8
  clear c8
  by_cases c9 : (((⟨#[98, 114, 119, 115, 99, 97]⟩ : ByteArray).extract ((ji2) : Int).toNat (a0_0 : Int).toNat) ++ t233).size + 1 ≤ 9223372036854775807
  rotate_left
  ·rw [if_neg c9] at H
   exact absurd H (by simp)
  rw [if_pos c9] at H
  have c9b0 := eq_true c9
  have c9b1 : decide ((((⟨#[98, 114, 119, 115, 99, 97]⟩ : ByteArray).extract ((ji2) : Int).toNat (a0_0 : Int).toNat) ++ t233).size + 1 ≤ 9223372036854775807) = true := decide_eq_true c9
  try have c9b2 : (9223372036854775807 < (((⟨#[98, 114, 119, 115, 99, 97]⟩ : ByteArray).extract ((ji2) : Int).toNat (a0_0 : Int).toNat) ++ t233).size + 1) = False := eq_false (Nat.not_lt.2 c9)
  try have c9b3 : (9223372036854775807 < (a0_0 : Int).toNat - ((ji2) : Int).toNat + t233.size + 1) = False := by have h_ := c9; have hq_ : a0_0 ≤ 6 := of_decide_eq_true (by assumption); have h1_ : (⟨#[32]⟩ : ByteArray).size = 1 := rfl; have hl_ : (⟨#[98, 114, 119, 115, 99, 97]⟩ : ByteArray).size = 6 := rfl; simp only [ByteArray.size_append, ByteArray.size_extract, h1_, hl_] at h_; exact eq_false (by omega)
  replace H := Option.bind_eq_some_iff.mp H
  obtain ⟨t234, A100, H⟩ := H
  replace H : (if ((((⟨#[98, 114, 119, 115, 99, 97]⟩ : ByteArray).extract ((ji2) : Int).toNat (a0_0 : Int).toNat) ++ t233) ++ (⟨#[32]⟩ : ByteArray)).size + t234.size ≤ 9223372036854775807 then (some (((((⟨#[98, 114, 119, 115, 99, 97]⟩ : ByteArray).extract ((ji2) : Int).toNat (a0_0 : Int).toNat) ++ t233) ++ (⟨#[32]⟩ : ByteArray)) ++ t234)) else (none)) = some r := H
  have A10 := AM_ A100
  clear A100
  by_cases c11 : ((((⟨#[98, 114, 119, 115, 99, 97]⟩ : ByteArray).extract ((ji2) : Int).toNat (a0_0 : Int).toNat) ++ t233) ++ (⟨#[32]⟩ : ByteArray)).size + t234.size ≤ 9223372036854775807
  rotate_left
  ·rw [if_neg c11] at H
   exact absurd H (by simp)
  rw [if_pos c11] at H
  have c11b0 := eq_true c11
  have c11b1 : decide (((((⟨#[98, 114, 119, 115, 99, 97]⟩ : ByteArray).extract ((ji2) : Int).toNat (a0_0 : Int).toNat) ++ t233) ++ (⟨#[32]⟩ : ByteArray)).size + t234.size ≤ 9223372036854775807) = true := decide_eq_true c11
  try have c11b2 : (9223372036854775807 < ((((⟨#[98, 114, 119, 115, 99, 97]⟩ : ByteArray).extract ((ji2) : Int).toNat (a0_0 : Int).toNat) ++ t233) ++ (⟨#[32]⟩ : ByteArray)).size + t234.size) = False := eq_false (Nat.not_lt.2 c11)
  try have c11b3 : (9223372036854775807 < (a0_0 : Int).toNat - ((ji2) : Int).toNat + t233.size + 1 + t234.size) = False := by have h_ := c11; have hq_ : a0_0 ≤ 6 := of_decide_eq_true (by assumption); have h1_ : (⟨#[32]⟩ : ByteArray).size = 1 := rfl; have hl_ : (⟨#[98, 114, 119, 115, 99, 97]⟩ : ByteArray).size = 6 := rfl; simp only [ByteArray.size_append, ByteArray.size_extract, h1_, hl_] at h_; exact eq_false (by omega)
  obtain rfl := Option.some.inj H
  go_enter Tryd.func19, Tryd.ntmps19
  try go_wp2_with (first | ((with_reducible refine gate_dst (N := 1) rfl ?_); refine box_event ?hg (N := 1) ?hd (cs := #[.int .i64 a0_0, .int .i64 a0_1, .int .i64 a0_2, .int .i64 a0_3, .int .i64 a0_4, .int .i64 a0_5]) (t := 25) ?hr ?_; (case hd => rfl); (case hg => rfl); (case hr => first | (go_simp; done) | (go_simp; rfl)); intro gb232 hg w12 hbox hb; have BK232 := AM_ (hbox); have GW232 := AM_ ((GS HB.out hg)); have GE232 := AM_ ((GS HB.out hg)); replace HB := AM_ (below_step (BT HB.out) hb); clear hb hbox hg))
  replace BK232 := AM_ (blk_drew BK232.out)
  replace HB := AM_ (below_drew1 HB.out)
  refine start_ (n := 11) (S := fun w' => w'.cell? ⟨gb232, 0, none⟩ = some (.int .i64 a0_0) ∧ w'.cell? ⟨gb232, 1, none⟩ = some (.int .i64 a0_1) ∧ w'.cell? ⟨gb232, 2, none⟩ = some (.int .i64 a0_2) ∧ w'.cell? ⟨gb232, 3, none⟩ = some (.int .i64 a0_3) ∧ w'.cell? ⟨gb232, 4, none⟩ = some (.int .i64 a0_4) ∧ w'.cell? ⟨gb232, 5, none⟩ = some (.int .i64 a0_5)) (ds := []) (bs 0 11) (by kernel_rfl) rfl rfl ⟨bc BK232.out 0, bc BK232.out 1, bc BK232.out 2, bc BK232.out 3, bc BK232.out 4, bc BK232.out 5⟩ (fun hHeld => ?_); refine with_tabW impl_formatOp.tab1 impl_formatOp.bits1 (fun HT_ HW_ => ?_)
  generalize w12.drew = w13 at BK232 HB hHeld ⊢
  refine pu (i := 0) (N := some 4) (v := ?_) (a' := ?_) (bs 1 11) rfl rfl HT_ ?_ ?_ ?_
  rotate_left
  ·intro w'
   go_simp
   with_reducible rfl
  rotate_left
  ·simp only [pA, pS, pZ, pK, i64_w, i32_w]
   rfl
  refine pu (i := 3) (N := some 7) (v := ?_) (a' := ?_) (bs 9 11) rfl rfl HT_ ?_ ?_ ?_
  rotate_left
  ·intro w'
   go_simp
   with_reducible rfl
  rotate_left
  ·simp only [pA, pS, pZ, pK, i64_w, i32_w]
   rfl
  refine pu (i := 6) (N := some 10) (v := ?_) (a' := ?_) (bs 73 11) rfl rfl HT_ ?_ ?_ ?_
  rotate_left
  ·intro w'
   go_simp
   with_reducible rfl
  rotate_left
  ·simp only [pA, pS, pZ, pK, i64_w, i32_w]
   rfl
  refine tk (i := 1) (N := some 5) (v := ?_) (a' := ?_) (bs 75 11) rfl rfl HT_ HW_ ?_ hHeld ?_ ?_
  rotate_left
  ·rintro w' ⟨s0, s1, s2, s3, s4, s5⟩
   go_simp
   with_reducible rfl
  rotate_left
  ·simp only [pA, pS, pZ, pK, i64_w, i32_w]
   rfl
  refine pu (i := 2) (N := some 6) (v := ?_) (a' := ?_) (bs 79 11) rfl rfl HT_ ?_ ?_ ?_
  rotate_left
  ·intro w'
   go_simp
   with_reducible rfl
  rotate_left
  ·simp only [pA, pS, pZ, pK, i64_w, i32_w]
   rfl
  refine tk (i := 4) (N := some 8) (v := ?_) (a' := ?_) (bs 95 11) rfl rfl HT_ HW_ ?_ hHeld ?_ ?_
  rotate_left
  ·rintro w' ⟨s0, s1, s2, s3, s4, s5⟩
   go_simp
   with_reducible rfl
  rotate_left
  ·simp only [pA, pS, pZ, pK, i64_w, i32_w]
   rfl
  refine pu (i := 5) (N := some 9) (v := ?_) (a' := ?_) (bs 127 11) rfl rfl HT_ ?_ ?_ ?_
  rotate_left
  ·intro w'
   go_simp
   with_reducible rfl
  rotate_left
  ·simp only [pA, pS, pZ, pK, i64_w, i32_w]
   rfl
  refine tk (i := 7) (N := some 11) (v := ?_) (a' := ?_) (bs 255 11) rfl rfl HT_ HW_ ?_ hHeld ?_ ?_
  rotate_left
  ·rintro w' ⟨s0, s1, s2, s3, s4, s5⟩
   go_simp
   with_reducible rfl
  rotate_left
  ·simp only [pA, pS, pZ, pK, i64_w, i32_w]
   rfl
  refine one_ (i := 8) (N := some 12) (bs 511 11) rfl rfl (one_of HT_.out (by kernel_rfl)) (by decide) (fun K hK => ?_)
  refine goes_ Tryd.func44 (by kernel_rfl) rfl #[.int .i64 a0_1] (by rfl) rfl rfl (by (try simp only [List.map_toArray, List.map_cons, List.map_nil]); first | done | rfl | (simp only [List.length_drop, List.length_take]; rfl)) ?_
  with_reducible refine (impl_FormatInt.calls a0_1 t233 _ ?side1 A6.out).mono ?_
  (case side1 => first | (with_reducible exact hTB) | exact Tryd.TB_below hTB (BT HB.out))
  rintro e w14 ⟨rfl, hb⟩
  refine ⟨_, rfl, ?_⟩
  replace BK232 := AM_ (BB BK232.out hb)
  replace HB := AM_ (below_step (BT HB.out) hb)
  (try clear hb)
  (try clear hb2)
  (try clear hk)
  (try clear hi)
  refine hK.out _ _ ⟨bc BK232.out 0, bc BK232.out 1, bc BK232.out 2, bc BK232.out 3, bc BK232.out 4, bc BK232.out 5⟩ (fun hHeld => ?_)
  clear hK K
  refine norm_ (a' := ?_) ?_ ?_
  rotate_left
  ·show Act.put _ (some 12) _ = _
   simp only [pA, pS, pZ, pK, i64_w, i32_w]
   rfl
  refine pu (i := 9) (N := some 13) (v := ?_) (a' := ?_) (bs 1023 11) rfl rfl HT_ ?_ ?_ ?_
  rotate_left
  ·intro w'
   go_simp
   with_reducible rfl
  rotate_left
  ·simp only [pA, pS, pZ, pK, i64_w, i32_w]
   rfl
  refine pu (i := 10) (N := some 3) (v := ?_) (a' := ?_) (bs 2047 11) rfl rfl HT_ ?_ ?_ ?_
  rotate_left
  ·intro w'
   go_simp
   with_reducible rfl
  rotate_left
  ·simp only [pA, pS, pZ, pK, i64_w, i32_w]
   rfl
  refine done_ (done_of HT_.out (by kernel_rfl)) ?_
  obtain ⟨hcz15_0, hcz15_1, hcz15_2, hcz15_3, hcz15_4, hcz15_5, hfz15_0, hfz15_1, hfz15_2, hfz15_3, hfz15_4, hfz15_5⟩ := bk6 BK232.out
  try go_wp2_with (first | ((with_reducible refine gate_callee (f := 45) rfl ?_); refine goesL_ (some 22) rfl rfl Tryd.func45 (by kernel_rfl) rfl #[.int .i64 a0_2] rfl (by (try simp only [List.map_toArray, List.map_cons, List.map_nil]); first | done | rfl | (simp only [List.length_drop, List.length_take]; rfl)) ?_; (with_reducible refine (impl_SchemeName.calls a0_2 t234 _ A10.out).mono ?_); rintro e w16 ⟨rfl, hb⟩; refine ⟨_, rfl, ?_⟩; replace BK232 := AM_ (BB BK232.out hb); replace HB := AM_ (below_step (BT HB.out) hb); (try clear hb); (try clear hb2); (try clear hk); (try clear hi)))
  go_ret
  exact ⟨by first | rfl | (simp [errW_none, errW_some] <;> rfl) | (simp only [← hji2]; first | rfl | (simp [errW_none, errW_some] <;> rfl)) | (simp [*, errW_none, errW_some] <;> rfl), BT HB.out⟩
 rw [if_neg c8] at H
 have c8b0 : (a0_0 == 1) = false := beq_eq_false_iff_ne.mpr c8
 have c8b1 : (a0_0 != 1) = true := bne_iff_ne.mpr c8
 by_cases c17 : a0_0 = 2
 ·rw [if_pos c17] at H
  have c17b0 : (a0_0 == 2) = true := beq_iff_eq.mpr c17
  have c17b1 : (a0_0 != 2) = false := bne_eq_false_iff_eq.mpr c17
  clear c17
  by_cases c18 : (((⟨#[98, 114, 119, 115, 99, 97]⟩ : ByteArray).extract ((ji2) : Int).toNat (a0_0 : Int).toNat) ++ t233).size + 1 ≤ 9223372036854775807
  rotate_left
  ·rw [if_neg c18] at H
   exact absurd H (by simp)
  rw [if_pos c18] at H
  have c18b0 := eq_true c18
  have c18b1 : decide ((((⟨#[98, 114, 119, 115, 99, 97]⟩ : ByteArray).extract ((ji2) : Int).toNat (a0_0 : Int).toNat) ++ t233).size + 1 ≤ 9223372036854775807) = true := decide_eq_true c18
  try have c18b2 : (9223372036854775807 < (((⟨#[98, 114, 119, 115, 99, 97]⟩ : ByteArray).extract ((ji2) : Int).toNat (a0_0 : Int).toNat) ++ t233).size + 1) = False := eq_false (Nat.not_lt.2 c18)
  try have c18b3 : (9223372036854775807 < (a0_0 : Int).toNat - ((ji2) : Int).toNat + t233.size + 1) = False := by have h_ := c18; have hq_ : a0_0 ≤ 6 := of_decide_eq_true (by assumption); have h1_ : (⟨#[32]⟩ : ByteArray).size = 1 := rfl; have hl_ : (⟨#[98, 114, 119, 115, 99, 97]⟩ : ByteArray).size = 6 := rfl; simp only [ByteArray.size_append, ByteArray.size_extract, h1_, hl_] at h_; exact eq_false (by omega)
  replace H := Option.bind_eq_some_iff.mp H
  obtain ⟨t235, A190, H⟩ := H
  replace H : (if ((((⟨#[98, 114, 119, 115, 99, 97]⟩ : ByteArray).extract ((ji2) : Int).toNat (a0_0 : Int).toNat) ++ t233) ++ (⟨#[32]⟩ : ByteArray)).size + t235.size ≤ 9223372036854775807 then (some (((((⟨#[98, 114, 119, 115, 99, 97]⟩ : ByteArray).extract ((ji2) : Int).toNat (a0_0 : Int).toNat) ++ t233) ++ (⟨#[32]⟩ : ByteArray)) ++ t235)) else (none)) = some r := H
  have A19 := AM_ A190
  clear A190
  by_cases c20 : ((((⟨#[98, 114, 119, 115, 99, 97]⟩ : ByteArray).extract ((ji2) : Int).toNat (a0_0 : Int).toNat) ++ t233) ++ (⟨#[32]⟩ : ByteArray)).size + t235.size ≤ 9223372036854775807
  rotate_left
  ·rw [if_neg c20] at H
   exact absurd H (by simp)
  rw [if_pos c20] at H
  have c20b0 := eq_true c20
  have c20b1 : decide (((((⟨#[98, 114, 119, 115, 99, 97]⟩ : ByteArray).extract ((ji2) : Int).toNat (a0_0 : Int).toNat) ++ t233) ++ (⟨#[32]⟩ : ByteArray)).size + t235.size ≤ 9223372036854775807) = true := decide_eq_true c20
  try have c20b2 : (9223372036854775807 < ((((⟨#[98, 114, 119, 115, 99, 97]⟩ : ByteArray).extract ((ji2) : Int).toNat (a0_0 : Int).toNat) ++ t233) ++ (⟨#[32]⟩ : ByteArray)).size + t235.size) = False := eq_false (Nat.not_lt.2 c20)
  try have c20b3 : (9223372036854775807 < (a0_0 : Int).toNat - ((ji2) : Int).toNat + t233.size + 1 + t235.size) = False := by have h_ := c20; have hq_ : a0_0 ≤ 6 := of_decide_eq_true (by assumption); have h1_ : (⟨#[32]⟩ : ByteArray).size = 1 := rfl; have hl_ : (⟨#[98, 114, 119, 115, 99, 97]⟩ : ByteArray).size = 6 := rfl; simp only [ByteArray.size_append, ByteArray.size_extract, h1_, hl_] at h_; exact eq_false (by omega)
  obtain rfl := Option.some.inj H
  go_enter Tryd.func19, Tryd.ntmps19
  try go_wp2_with (first | ((with_reducible refine gate_dst (N := 1) rfl ?_); refine box_event ?hg (N := 1) ?hd (cs := #[.int .i64 a0_0, .int .i64 a0_1, .int .i64 a0_2, .int .i64 a0_3, .int .i64 a0_4, .int .i64 a0_5]) (t := 25) ?hr ?_; (case hd => rfl); (case hg => rfl); (case hr => first | (go_simp; done) | (go_simp; rfl)); intro gb232 hg w21 hbox hb; have BK232 := AM_ (hbox); have GW232 := AM_ ((GS HB.out hg)); have GE232 := AM_ ((GS HB.out hg)); replace HB := AM_ (below_step (BT HB.out) hb); clear hb hbox hg))
  replace BK232 := AM_ (blk_drew BK232.out)
  replace HB := AM_ (below_drew1 HB.out)
  refine start_ (n := 11) (S := fun w' => w'.cell? ⟨gb232, 0, none⟩ = some (.int .i64 a0_0) ∧ w'.cell? ⟨gb232, 1, none⟩ = some (.int .i64 a0_1) ∧ w'.cell? ⟨gb232, 2, none⟩ = some (.int .i64 a0_2) ∧ w'.cell? ⟨gb232, 3, none⟩ = some (.int .i64 a0_3) ∧ w'.cell? ⟨gb232, 4, none⟩ = some (.int .i64 a0_4) ∧ w'.cell? ⟨gb232, 5, none⟩ = some (.int .i64 a0_5)) (ds := []) (bs 0 11) (by kernel_rfl) rfl rfl ⟨bc BK232.out 0, bc BK232.out 1, bc BK232.out 2, bc BK232.out 3, bc BK232.out 4, bc BK232.out 5⟩ (fun hHeld => ?_); refine with_tabW impl_formatOp.tab1 impl_formatOp.bits1 (fun HT_ HW_ => ?_)
  generalize w21.drew = w22 at BK232 HB hHeld ⊢
  refine pu (i := 0) (N := some 4) (v := ?_) (a' := ?_) (bs 1 11) rfl rfl HT_ ?_ ?_ ?_
  rotate_left
  ·intro w'
   go_simp
   with_reducible rfl
  rotate_left
  ·simp only [pA, pS, pZ, pK, i64_w, i32_w]
   rfl
  refine pu (i := 3) (N := some 7) (v := ?_) (a' := ?_) (bs 9 11) rfl rfl HT_ ?_ ?_ ?_
  rotate_left
  ·intro w'
   go_simp
   with_reducible rfl
  rotate_left
  ·simp only [pA, pS, pZ, pK, i64_w, i32_w]
   rfl
  refine pu (i := 6) (N := some 10) (v := ?_) (a' := ?_) (bs 73 11) rfl rfl HT_ ?_ ?_ ?_
  rotate_left
  ·intro w'
   go_simp
   with_reducible rfl
  rotate_left
  ·simp only [pA, pS, pZ, pK, i64_w, i32_w]
   rfl
  refine tk (i := 1) (N := some 5) (v := ?_) (a' := ?_) (bs 75 11) rfl rfl HT_ HW_ ?_ hHeld ?_ ?_
  rotate_left
  ·rintro w' ⟨s0, s1, s2, s3, s4, s5⟩
   go_simp
   with_reducible rfl
  rotate_left
  ·simp only [pA, pS, pZ, pK, i64_w, i32_w]
   rfl
  refine pu (i := 2) (N := some 6) (v := ?_) (a' := ?_) (bs 79 11) rfl rfl HT_ ?_ ?_ ?_
  rotate_left
  ·intro w'
   go_simp
   with_reducible rfl
  rotate_left
  ·simp only [pA, pS, pZ, pK, i64_w, i32_w]
   rfl
  refine tk (i := 4) (N := some 8) (v := ?_) (a' := ?_) (bs 95 11) rfl rfl HT_ HW_ ?_ hHeld ?_ ?_
  rotate_left
  ·rintro w' ⟨s0, s1, s2, s3, s4, s5⟩
   go_simp
   with_reducible rfl
  rotate_left
  ·simp only [pA, pS, pZ, pK, i64_w, i32_w]
   rfl
  refine pu (i := 5) (N := some 9) (v := ?_) (a' := ?_) (bs 127 11) rfl rfl HT_ ?_ ?_ ?_
  rotate_left
  ·intro w'
   go_simp
   with_reducible rfl
  rotate_left
  ·simp only [pA, pS, pZ, pK, i64_w, i32_w]
   rfl
  refine tk (i := 7) (N := some 11) (v := ?_) (a' := ?_) (bs 255 11) rfl rfl HT_ HW_ ?_ hHeld ?_ ?_
  rotate_left
  ·rintro w' ⟨s0, s1, s2, s3, s4, s5⟩
   go_simp
   with_reducible rfl
  rotate_left
  ·simp only [pA, pS, pZ, pK, i64_w, i32_w]
   rfl
  refine one_ (i := 8) (N := some 12) (bs 511 11) rfl rfl (one_of HT_.out (by kernel_rfl)) (by decide) (fun K hK => ?_)
  refine goes_ Tryd.func44 (by kernel_rfl) rfl #[.int .i64 a0_1] (by rfl) rfl rfl (by (try simp only [List.map_toArray, List.map_cons, List.map_nil]); first | done | rfl | (simp only [List.length_drop, List.length_take]; rfl)) ?_
  with_reducible refine (impl_FormatInt.calls a0_1 t233 _ ?side1 A6.out).mono ?_
  (case side1 => first | (with_reducible exact hTB) | exact Tryd.TB_below hTB (BT HB.out))
  rintro e w23 ⟨rfl, hb⟩
  refine ⟨_, rfl, ?_⟩
  replace BK232 := AM_ (BB BK232.out hb)
  replace HB := AM_ (below_step (BT HB.out) hb)
  (try clear hb)
  (try clear hb2)
  (try clear hk)
  (try clear hi)
  refine hK.out _ _ ⟨bc BK232.out 0, bc BK232.out 1, bc BK232.out 2, bc BK232.out 3, bc BK232.out 4, bc BK232.out 5⟩ (fun hHeld => ?_)
  clear hK K
  refine norm_ (a' := ?_) ?_ ?_
  rotate_left
  ·show Act.put _ (some 12) _ = _
   simp only [pA, pS, pZ, pK, i64_w, i32_w]
   rfl
  refine pu (i := 9) (N := some 13) (v := ?_) (a' := ?_) (bs 1023 11) rfl rfl HT_ ?_ ?_ ?_
  rotate_left
  ·intro w'
   go_simp
   with_reducible rfl
  rotate_left
  ·simp only [pA, pS, pZ, pK, i64_w, i32_w]
   rfl
  refine pu (i := 10) (N := some 3) (v := ?_) (a' := ?_) (bs 2047 11) rfl rfl HT_ ?_ ?_ ?_
  rotate_left
  ·intro w'
   go_simp
   with_reducible rfl
  rotate_left
  ·simp only [pA, pS, pZ, pK, i64_w, i32_w]
   rfl
  refine done_ (done_of HT_.out (by kernel_rfl)) ?_
  obtain ⟨hcz24_0, hcz24_1, hcz24_2, hcz24_3, hcz24_4, hcz24_5, hfz24_0, hfz24_1, hfz24_2, hfz24_3, hfz24_4, hfz24_5⟩ := bk6 BK232.out
  try go_wp2_with (first | ((with_reducible refine gate_callee (f := 44) rfl ?_); refine goesL_ (some 30) rfl rfl Tryd.func44 (by kernel_rfl) rfl #[.int .i64 a0_3] rfl (by (try simp only [List.map_toArray, List.map_cons, List.map_nil]); first | done | rfl | (simp only [List.length_drop, List.length_take]; rfl)) ?_; (with_reducible refine (impl_FormatInt.calls a0_3 t235 _ ?side1 A19.out).mono ?_); (case side1 => first | (with_reducible exact hTB) | exact Tryd.TB_below hTB (BT HB.out)); rintro e w25 ⟨rfl, hb⟩; refine ⟨_, rfl, ?_⟩; replace BK232 := AM_ (BB BK232.out hb); replace HB := AM_ (below_step (BT HB.out) hb); (try clear hb); (try clear hb2); (try clear hk); (try clear hi)))
  go_ret
  exact ⟨by first | rfl | (simp [errW_none, errW_some] <;> rfl) | (simp only [← hji2]; first | rfl | (simp [errW_none, errW_some] <;> rfl)) | (simp [*, errW_none, errW_some] <;> rfl), BT HB.out⟩
 rw [if_neg c17] at H
 have c17b0 : (a0_0 == 2) = false := beq_eq_false_iff_ne.mpr c17
 have c17b1 : (a0_0 != 2) = true := bne_iff_ne.mpr c17
 by_cases c26 : a0_0 = 3
 ·rw [if_pos c26] at H
  have c26b0 : (a0_0 == 3) = true := beq_iff_eq.mpr c26
  have c26b1 : (a0_0 != 3) = false := bne_eq_false_iff_eq.mpr c26
  clear c26
  by_cases c27 : (((⟨#[98, 114, 119, 115, 99, 97]⟩ : ByteArray).extract ((ji2) : Int).toNat (a0_0 : Int).toNat) ++ t233).size + 1 ≤ 9223372036854775807
  rotate_left
  ·rw [if_neg c27] at H
   exact absurd H (by simp)
  rw [if_pos c27] at H
  have c27b0 := eq_true c27
  have c27b1 : decide ((((⟨#[98, 114, 119, 115, 99, 97]⟩ : ByteArray).extract ((ji2) : Int).toNat (a0_0 : Int).toNat) ++ t233).size + 1 ≤ 9223372036854775807) = true := decide_eq_true c27
  try have c27b2 : (9223372036854775807 < (((⟨#[98, 114, 119, 115, 99, 97]⟩ : ByteArray).extract ((ji2) : Int).toNat (a0_0 : Int).toNat) ++ t233).size + 1) = False := eq_false (Nat.not_lt.2 c27)
  try have c27b3 : (9223372036854775807 < (a0_0 : Int).toNat - ((ji2) : Int).toNat + t233.size + 1) = False := by have h_ := c27; have hq_ : a0_0 ≤ 6 := of_decide_eq_true (by assumption); have h1_ : (⟨#[32]⟩ : ByteArray).size = 1 := rfl; have hl_ : (⟨#[98, 114, 119, 115, 99, 97]⟩ : ByteArray).size = 6 := rfl; simp only [ByteArray.size_append, ByteArray.size_extract, h1_, hl_] at h_; exact eq_false (by omega)
  replace H := Option.bind_eq_some_iff.mp H
  obtain ⟨t236, A280, H⟩ := H
  replace H : (if ((((⟨#[98, 114, 119, 115, 99, 97]⟩ : ByteArray).extract ((ji2) : Int).toNat (a0_0 : Int).toNat) ++ t233) ++ (⟨#[32]⟩ : ByteArray)).size + t236.size ≤ 9223372036854775807 then (if (((((⟨#[98, 114, 119, 115, 99, 97]⟩ : ByteArray).extract ((ji2) : Int).toNat (a0_0 : Int).toNat) ++ t233) ++ (⟨#[32]⟩ : ByteArray)) ++ t236).size + 1 ≤ 9223372036854775807 then ((impl_formatValue.f a0_5).bind fun t237 => (if ((((((⟨#[98, 114, 119, 115, 99, 97]⟩ : ByteArray).extract ((ji2) : Int).toNat (a0_0 : Int).toNat) ++ t233) ++ (⟨#[32]⟩ : ByteArray)) ++ t236) ++ (⟨#[32]⟩ : ByteArray)).size + t237.size ≤ 9223372036854775807 then (some (((((((⟨#[98, 114, 119, 115, 99, 97]⟩ : ByteArray).extract ((ji2) : Int).toNat (a0_0 : Int).toNat) ++ t233) ++ (⟨#[32]⟩ : ByteArray)) ++ t236) ++ (⟨#[32]⟩ : ByteArray)) ++ t237)) else (none))) else (none)) else (none)) = some r := H
  have A28 := AM_ A280
  clear A280
  by_cases c29 : ((((⟨#[98, 114, 119, 115, 99, 97]⟩ : ByteArray).extract ((ji2) : Int).toNat (a0_0 : Int).toNat) ++ t233) ++ (⟨#[32]⟩ : ByteArray)).size + t236.size ≤ 9223372036854775807
  rotate_left
  ·rw [if_neg c29] at H
   exact absurd H (by simp)
  rw [if_pos c29] at H
  have c29b0 := eq_true c29
  have c29b1 : decide (((((⟨#[98, 114, 119, 115, 99, 97]⟩ : ByteArray).extract ((ji2) : Int).toNat (a0_0 : Int).toNat) ++ t233) ++ (⟨#[32]⟩ : ByteArray)).size + t236.size ≤ 9223372036854775807) = true := decide_eq_true c29
  try have c29b2 : (9223372036854775807 < ((((⟨#[98, 114, 119, 115, 99, 97]⟩ : ByteArray).extract ((ji2) : Int).toNat (a0_0 : Int).toNat) ++ t233) ++ (⟨#[32]⟩ : ByteArray)).size + t236.size) = False := eq_false (Nat.not_lt.2 c29)
  try have c29b3 : (9223372036854775807 < (a0_0 : Int).toNat - ((ji2) : Int).toNat + t233.size + 1 + t236.size) = False := by have h_ := c29; have hq_ : a0_0 ≤ 6 := of_decide_eq_true (by assumption); have h1_ : (⟨#[32]⟩ : ByteArray).size = 1 := rfl; have hl_ : (⟨#[98, 114, 119, 115, 99, 97]⟩ : ByteArray).size = 6 := rfl; simp only [ByteArray.size_append, ByteArray.size_extract, h1_, hl_] at h_; exact eq_false (by omega)
  by_cases c30 : (((((⟨#[98, 114, 119, 115, 99, 97]⟩ : ByteArray).extract ((ji2) : Int).toNat (a0_0 : Int).toNat) ++ t233) ++ (⟨#[32]⟩ : ByteArray)) ++ t236).size + 1 ≤ 9223372036854775807
  rotate_left
  ·rw [if_neg c30] at H
   exact absurd H (by simp)
  rw [if_pos c30] at H
  have c30b0 := eq_true c30
  have c30b1 : decide ((((((⟨#[98, 114, 119, 115, 99, 97]⟩ : ByteArray).extract ((ji2) : Int).toNat (a0_0 : Int).toNat) ++ t233) ++ (⟨#[32]⟩ : ByteArray)) ++ t236).size + 1 ≤ 9223372036854775807) = true := decide_eq_true c30
  try have c30b2 : (9223372036854775807 < (((((⟨#[98, 114, 119, 115, 99, 97]⟩ : ByteArray).extract ((ji2) : Int).toNat (a0_0 : Int).toNat) ++ t233) ++ (⟨#[32]⟩ : ByteArray)) ++ t236).size + 1) = False := eq_false (Nat.not_lt.2 c30)
  try have c30b3 : (9223372036854775807 < (a0_0 : Int).toNat - ((ji2) : Int).toNat + t233.size + 1 + t236.size + 1) = False := by have h_ := c30; have hq_ : a0_0 ≤ 6 := of_decide_eq_true (by assumption); have h1_ : (⟨#[32]⟩ : ByteArray).size = 1 := rfl; have hl_ : (⟨#[98, 114, 119, 115, 99, 97]⟩ : ByteArray).size = 6 := rfl; simp only [ByteArray.size_append, ByteArray.size_extract, h1_, hl_] at h_; exact eq_false (by omega)
  replace H := Option.bind_eq_some_iff.mp H
  obtain ⟨t237, A310, H⟩ := H
  replace H : (if ((((((⟨#[98, 114, 119, 115, 99, 97]⟩ : ByteArray).extract ((ji2) : Int).toNat (a0_0 : Int).toNat) ++ t233) ++ (⟨#[32]⟩ : ByteArray)) ++ t236) ++ (⟨#[32]⟩ : ByteArray)).size + t237.size ≤ 9223372036854775807 then (some (((((((⟨#[98, 114, 119, 115, 99, 97]⟩ : ByteArray).extract ((ji2) : Int).toNat (a0_0 : Int).toNat) ++ t233) ++ (⟨#[32]⟩ : ByteArray)) ++ t236) ++ (⟨#[32]⟩ : ByteArray)) ++ t237)) else (none)) = some r := H
  have A31 := AM_ A310
  clear A310
  by_cases c32 : ((((((⟨#[98, 114, 119, 115, 99, 97]⟩ : ByteArray).extract ((ji2) : Int).toNat (a0_0 : Int).toNat) ++ t233) ++ (⟨#[32]⟩ : ByteArray)) ++ t236) ++ (⟨#[32]⟩ : ByteArray)).size + t237.size ≤ 9223372036854775807
  rotate_left
  ·rw [if_neg c32] at H
   exact absurd H (by simp)
  rw [if_pos c32] at H
  have c32b0 := eq_true c32
  have c32b1 : decide (((((((⟨#[98, 114, 119, 115, 99, 97]⟩ : ByteArray).extract ((ji2) : Int).toNat (a0_0 : Int).toNat) ++ t233) ++ (⟨#[32]⟩ : ByteArray)) ++ t236) ++ (⟨#[32]⟩ : ByteArray)).size + t237.size ≤ 9223372036854775807) = true := decide_eq_true c32
  try have c32b2 : (9223372036854775807 < ((((((⟨#[98, 114, 119, 115, 99, 97]⟩ : ByteArray).extract ((ji2) : Int).toNat (a0_0 : Int).toNat) ++ t233) ++ (⟨#[32]⟩ : ByteArray)) ++ t236) ++ (⟨#[32]⟩ : ByteArray)).size + t237.size) = False := eq_false (Nat.not_lt.2 c32)
  try have c32b3 : (9223372036854775807 < (a0_0 : Int).toNat - ((ji2) : Int).toNat + t233.size + 1 + t236.size + 1 + t237.size) = False := by have h_ := c32; have hq_ : a0_0 ≤ 6 := of_decide_eq_true (by assumption); have h1_ : (⟨#[32]⟩ : ByteArray).size = 1 := rfl; have hl_ : (⟨#[98, 114, 119, 115, 99, 97]⟩ : ByteArray).size = 6 := rfl; simp only [ByteArray.size_append, ByteArray.size_extract, h1_, hl_] at h_; exact eq_false (by omega)
  obtain rfl := Option.some.inj H
  go_enter Tryd.func19, Tryd.ntmps19
  try go_wp2_with (first | ((with_reducible refine gate_dst (N := 1) rfl ?_); refine box_event ?hg (N := 1) ?hd (cs := #[.int .i64 a0_0, .int .i64 a0_1, .int .i64 a0_2, .int .i64 a0_3, .int .i64 a0_4, .int .i64 a0_5]) (t := 25) ?hr ?_; (case hd => rfl); (case hg => rfl); (case hr => first | (go_simp; done) | (go_simp; rfl)); intro gb232 hg w33 hbox hb; have BK232 := AM_ (hbox); have GW232 := AM_ ((GS HB.out hg)); have GE232 := AM_ ((GS HB.out hg)); replace HB := AM_ (below_step (BT HB.out) hb); clear hb hbox hg))
  replace BK232 := AM_ (blk_drew BK232.out)
  replace HB := AM_ (below_drew1 HB.out)
  refine start_ (n := 11) (S := fun w' => w'.cell? ⟨gb232, 0, none⟩ = some (.int .i64 a0_0) ∧ w'.cell? ⟨gb232, 1, none⟩ = some (.int .i64 a0_1) ∧ w'.cell? ⟨gb232, 2, none⟩ = some (.int .i64 a0_2) ∧ w'.cell? ⟨gb232, 3, none⟩ = some (.int .i64 a0_3) ∧ w'.cell? ⟨gb232, 4, none⟩ = some (.int .i64 a0_4) ∧ w'.cell? ⟨gb232, 5, none⟩ = some (.int .i64 a0_5)) (ds := []) (bs 0 11) (by kernel_rfl) rfl rfl ⟨bc BK232.out 0, bc BK232.out 1, bc BK232.out 2, bc BK232.out 3, bc BK232.out 4, bc BK232.out 5⟩ (fun hHeld => ?_); refine with_tabW impl_formatOp.tab1 impl_formatOp.bits1 (fun HT_ HW_ => ?_)
  generalize w33.drew = w34 at BK232 HB hHeld ⊢
  refine pu (i := 0) (N := some 4) (v := ?_) (a' := ?_) (bs 1 11) rfl rfl HT_ ?_ ?_ ?_
  rotate_left
  ·intro w'
   go_simp
   with_reducible rfl
  rotate_left
  ·simp only [pA, pS, pZ, pK, i64_w, i32_w]
   rfl
  refine pu (i := 3) (N := some 7) (v := ?_) (a' := ?_) (bs 9 11) rfl rfl HT_ ?_ ?_ ?_
  rotate_left
  ·intro w'
   go_simp
   with_reducible rfl
  rotate_left
  ·simp only [pA, pS, pZ, pK, i64_w, i32_w]
   rfl
  refine pu (i := 6) (N := some 10) (v := ?_) (a' := ?_) (bs 73 11) rfl rfl HT_ ?_ ?_ ?_
  rotate_left
  ·intro w'
   go_simp
   with_reducible rfl
  rotate_left
  ·simp only [pA, pS, pZ, pK, i64_w, i32_w]
   rfl
  refine tk (i := 1) (N := some 5) (v := ?_) (a' := ?_) (bs 75 11) rfl rfl HT_ HW_ ?_ hHeld ?_ ?_
  rotate_left
  ·rintro w' ⟨s0, s1, s2, s3, s4, s5⟩
   go_simp
   with_reducible rfl
  rotate_left
  ·simp only [pA, pS, pZ, pK, i64_w, i32_w]
   rfl
  refine pu (i := 2) (N := some 6) (v := ?_) (a' := ?_) (bs 79 11) rfl rfl HT_ ?_ ?_ ?_
  rotate_left
  ·intro w'
   go_simp
   with_reducible rfl
  rotate_left
  ·simp only [pA, pS, pZ, pK, i64_w, i32_w]
   rfl
  refine tk (i := 4) (N := some 8) (v := ?_) (a' := ?_) (bs 95 11) rfl rfl HT_ HW_ ?_ hHeld ?_ ?_
  rotate_left
  ·rintro w' ⟨s0, s1, s2, s3, s4, s5⟩
   go_simp
   with_reducible rfl
  rotate_left
  ·simp only [pA, pS, pZ, pK, i64_w, i32_w]
   rfl
  refine pu (i := 5) (N := some 9) (v := ?_) (a' := ?_) (bs 127 11) rfl rfl HT_ ?_ ?_ ?_
  rotate_left
  ·intro w'
   go_simp
   with_reducible rfl
  rotate_left
  ·simp only [pA, pS, pZ, pK, i64_w, i32_w]
   rfl
  refine tk (i := 7) (N := some 11) (v := ?_) (a' := ?_) (bs 255 11) rfl rfl HT_ HW_ ?_ hHeld ?_ ?_
  rotate_left
  ·rintro w' ⟨s0, s1, s2, s3, s4, s5⟩
   go_simp
   with_reducible rfl
  rotate_left
  ·simp only [pA, pS, pZ, pK, i64_w, i32_w]
   rfl
  refine one_ (i := 8) (N := some 12) (bs 511 11) rfl rfl (one_of HT_.out (by kernel_rfl)) (by decide) (fun K hK => ?_)
  refine goes_ Tryd.func44 (by kernel_rfl) rfl #[.int .i64 a0_1] (by rfl) rfl rfl (by (try simp only [List.map_toArray, List.map_cons, List.map_nil]); first | done | rfl | (simp only [List.length_drop, List.length_take]; rfl)) ?_
  with_reducible refine (impl_FormatInt.calls a0_1 t233 _ ?side1 A6.out).mono ?_
  (case side1 => first | (with_reducible exact hTB) | exact Tryd.TB_below hTB (BT HB.out))
  rintro e w35 ⟨rfl, hb⟩
  refine ⟨_, rfl, ?_⟩
  replace BK232 := AM_ (BB BK232.out hb)
  replace HB := AM_ (below_step (BT HB.out) hb)
  (try clear hb)
  (try clear hb2)
  (try clear hk)
  (try clear hi)
  refine hK.out _ _ ⟨bc BK232.out 0, bc BK232.out 1, bc BK232.out 2, bc BK232.out 3, bc BK232.out 4, bc BK232.out 5⟩ (fun hHeld => ?_)
  clear hK K
  refine norm_ (a' := ?_) ?_ ?_
  rotate_left
  ·show Act.put _ (some 12) _ = _
   simp only [pA, pS, pZ, pK, i64_w, i32_w]
   rfl
  refine pu (i := 9) (N := some 13) (v := ?_) (a' := ?_) (bs 1023 11) rfl rfl HT_ ?_ ?_ ?_
  rotate_left
  ·intro w'
   go_simp
   with_reducible rfl
  rotate_left
  ·simp only [pA, pS, pZ, pK, i64_w, i32_w]
   rfl
  refine pu (i := 10) (N := some 3) (v := ?_) (a' := ?_) (bs 2047 11) rfl rfl HT_ ?_ ?_ ?_
  rotate_left
  ·intro w'
   go_simp
   with_reducible rfl
  rotate_left
  ·simp only [pA, pS, pZ, pK, i64_w, i32_w]
   rfl
  refine done_ (done_of HT_.out (by kernel_rfl)) ?_
  obtain ⟨hcz36_0, hcz36_1, hcz36_2, hcz36_3, hcz36_4, hcz36_5, hfz36_0, hfz36_1, hfz36_2, hfz36_3, hfz36_4, hfz36_5⟩ := bk6 BK232.out
  try go_wp2
  replace BK232 := AM_ (blk_drew BK232.out)
  replace HB := AM_ (below_drew1 HB.out)
  refine start_ (n := 12) (S := fun w' => w'.cell? ⟨gb232, 0, none⟩ = some (.int .i64 a0_0) ∧ w'.cell? ⟨gb232, 1, none⟩ = some (.int .i64 a0_1) ∧ w'.cell? ⟨gb232, 2, none⟩ = some (.int .i64 a0_2) ∧ w'.cell? ⟨gb232, 3, none⟩ = some (.int .i64 a0_3) ∧ w'.cell? ⟨gb232, 4, none⟩ = some (.int .i64 a0_4) ∧ w'.cell? ⟨gb232, 5, none⟩ = some (.int .i64 a0_5)) (ds := []) (bs 0 12) (by kernel_rfl) rfl rfl ⟨bc BK232.out 0, bc BK232.out 1, bc BK232.out 2, bc BK232.out 3, bc BK232.out 4, bc BK232.out 5⟩ (fun hHeld => ?_); refine with_tabW impl_formatOp.tab8 impl_formatOp.bits8 (fun HT_ HW_ => ?_)
  generalize w35.drew = w37 at BK232 HB hHeld ⊢
  refine pu (i := 0) (N := some 34) (v := ?_) (a' := ?_) (bs 1 12) rfl rfl HT_ ?_ ?_ ?_
  rotate_left
  ·intro w'
   go_simp
   with_reducible rfl
  rotate_left
  ·simp only [pA, pS, pZ, pK, i64_w, i32_w]
   rfl
  refine pu (i := 1) (N := some 35) (v := ?_) (a' := ?_) (bs 3 12) rfl rfl HT_ ?_ ?_ ?_
  rotate_left
  ·intro w'
   go_simp
   with_reducible rfl
  rotate_left
  ·simp only [pA, pS, pZ, pK, i64_w, i32_w]
   rfl
  refine pu (i := 2) (N := some 36) (v := ?_) (a' := ?_) (bs 7 12) rfl rfl HT_ ?_ ?_ ?_
  rotate_left
  ·intro w'
   go_simp
   with_reducible rfl
  rotate_left
  ·simp only [pA, pS, pZ, pK, i64_w, i32_w]
   rfl
  refine pu (i := 7) (N := some 41) (v := ?_) (a' := ?_) (bs 135 12) rfl rfl HT_ ?_ ?_ ?_
  rotate_left
  ·intro w'
   go_simp
   with_reducible rfl
  rotate_left
  ·simp only [pA, pS, pZ, pK, i64_w, i32_w]
   rfl
  refine tk (i := 3) (N := some 37) (v := ?_) (a' := ?_) (bs 143 12) rfl rfl HT_ HW_ ?_ hHeld ?_ ?_
  rotate_left
  ·rintro w' ⟨s0, s1, s2, s3, s4, s5⟩
   go_simp
   with_reducible rfl
  rotate_left
  ·simp only [pA, pS, pZ, pK, i64_w, i32_w]
   rfl
  refine tk (i := 8) (N := some 42) (v := ?_) (a' := ?_) (bs 399 12) rfl rfl HT_ HW_ ?_ hHeld ?_ ?_
  rotate_left
  ·rintro w' ⟨s0, s1, s2, s3, s4, s5⟩
   go_simp
   with_reducible rfl
  rotate_left
  ·simp only [pA, pS, pZ, pK, i64_w, i32_w]
   rfl
  refine one_ (i := 4) (N := some 38) (bs 415 12) rfl rfl (one_of HT_.out (by kernel_rfl)) (by decide) (fun K hK => ?_)
  refine goes_ Tryd.func44 (by kernel_rfl) rfl #[.int .i64 a0_3] (by rfl) rfl rfl (by (try simp only [List.map_toArray, List.map_cons, List.map_nil]); first | done | rfl | (simp only [List.length_drop, List.length_take]; rfl)) ?_
  with_reducible refine (impl_FormatInt.calls a0_3 t236 _ ?side1 A28.out).mono ?_
  (case side1 => first | (with_reducible exact hTB) | exact Tryd.TB_below hTB (BT HB.out))
  rintro e w38 ⟨rfl, hb⟩
  refine ⟨_, rfl, ?_⟩
  replace BK232 := AM_ (BB BK232.out hb)
  replace HB := AM_ (below_step (BT HB.out) hb)
  (try clear hb)
  (try clear hb2)
  (try clear hk)
  (try clear hi)
  refine hK.out _ _ ⟨bc BK232.out 0, bc BK232.out 1, bc BK232.out 2, bc BK232.out 3, bc BK232.out 4, bc BK232.out 5⟩ (fun hHeld => ?_)
  clear hK K
  refine norm_ (a' := ?_) ?_ ?_
  rotate_left
  ·show Act.put _ (some 38) _ = _
   simp only [pA, pS, pZ, pK, i64_w, i32_w]
   rfl
  refine pu (i := 5) (N := some 39) (v := ?_) (a' := ?_) (bs 447 12) rfl rfl HT_ ?_ ?_ ?_
  rotate_left
  ·intro w'
   go_simp
   with_reducible rfl
  rotate_left
  ·simp only [pA, pS, pZ, pK, i64_w, i32_w]
   rfl
  refine pu (i := 6) (N := some 40) (v := ?_) (a' := ?_) (bs 511 12) rfl rfl HT_ ?_ ?_ ?_
  rotate_left
  ·intro w'
   go_simp
   with_reducible rfl
  rotate_left
  ·simp only [pA, pS, pZ, pK, i64_w, i32_w]
   rfl
  refine one_ (i := 9) (N := some 43) (bs 1023 12) rfl rfl (one_of HT_.out (by kernel_rfl)) (by decide) (fun K hK => ?_)
  refine goes_ Tryd.func46 (by kernel_rfl) rfl #[.int .i64 a0_5] (by rfl) rfl rfl (by (try simp only [List.map_toArray, List.map_cons, List.map_nil]); first | done | rfl | (simp only [List.length_drop, List.length_take]; rfl)) ?_
  with_reducible refine (impl_formatValue.calls a0_5 t237 _ ?side1 A31.out).mono ?_
  (case side1 => first | (with_reducible exact hTB) | exact Tryd.TB_below hTB (BT HB.out))
  rintro e w39 ⟨rfl, hb⟩
  refine ⟨_, rfl, ?_⟩
  replace BK232 := AM_ (BB BK232.out hb)
  replace HB := AM_ (below_step (BT HB.out) hb)
  (try clear hb)
  (try clear hb2)
  (try clear hk)
  (try clear hi)
  refine hK.out _ _ ⟨bc BK232.out 0, bc BK232.out 1, bc BK232.out 2, bc BK232.out 3, bc BK232.out 4, bc BK232.out 5⟩ (fun hHeld => ?_)
  clear hK K
  refine norm_ (a' := ?_) ?_ ?_
  rotate_left
  ·show Act.put _ (some 43) _ = _
   simp only [pA, pS, pZ, pK, i64_w, i32_w]
   rfl
  refine pu (i := 10) (N := some 44) (v := ?_) (a' := ?_) (bs 2047 12) rfl rfl HT_ ?_ ?_ ?_
  rotate_left
  ·intro w'
   go_simp
   with_reducible rfl
  rotate_left
  ·simp only [pA, pS, pZ, pK, i64_w, i32_w]
   rfl
  refine pu (i := 11) (N := some 2) (v := ?_) (a' := ?_) (bs 4095 12) rfl rfl HT_ ?_ ?_ ?_
  rotate_left
  ·intro w'
   go_simp
   with_reducible rfl
  rotate_left
  ·simp only [pA, pS, pZ, pK, i64_w, i32_w]
   rfl
  refine done_ (done_of HT_.out (by kernel_rfl)) ?_
  try go_wp2
  go_ret
  exact ⟨by first | rfl | (simp [errW_none, errW_some] <;> rfl) | (simp only [← hji2]; first | rfl | (simp [errW_none, errW_some] <;> rfl)) | (simp [*, errW_none, errW_some] <;> rfl), BT HB.out⟩
 rw [if_neg c26] at H
 have c26b0 : (a0_0 == 3) = false := beq_eq_false_iff_ne.mpr c26
 have c26b1 : (a0_0 != 3) = true := bne_iff_ne.mpr c26
 by_cases c40 : a0_0 = 4
 rotate_left
 ·rw [if_neg c40] at H
  have c40b0 : (a0_0 == 4) = false := beq_eq_false_iff_ne.mpr c40
  have c40b1 : (a0_0 != 4) = true := bne_iff_ne.mpr c40
  obtain rfl := Option.some.inj H
  go_enter Tryd.func19, Tryd.ntmps19
  try go_wp2_with (first | ((with_reducible refine gate_dst (N := 1) rfl ?_); refine box_event ?hg (N := 1) ?hd (cs := #[.int .i64 a0_0, .int .i64 a0_1, .int .i64 a0_2, .int .i64 a0_3, .int .i64 a0_4, .int .i64 a0_5]) (t := 25) ?hr ?_; (case hd => rfl); (case hg => rfl); (case hr => first | (go_simp; done) | (go_simp; rfl)); intro gb232 hg w54 hbox hb; have BK232 := AM_ (hbox); have GW232 := AM_ ((GS HB.out hg)); have GE232 := AM_ ((GS HB.out hg)); replace HB := AM_ (below_step (BT HB.out) hb); clear hb hbox hg))
  replace BK232 := AM_ (blk_drew BK232.out)
  replace HB := AM_ (below_drew1 HB.out)
  refine start_ (n := 11) (S := fun w' => w'.cell? ⟨gb232, 0, none⟩ = some (.int .i64 a0_0) ∧ w'.cell? ⟨gb232, 1, none⟩ = some (.int .i64 a0_1) ∧ w'.cell? ⟨gb232, 2, none⟩ = some (.int .i64 a0_2) ∧ w'.cell? ⟨gb232, 3, none⟩ = some (.int .i64 a0_3) ∧ w'.cell? ⟨gb232, 4, none⟩ = some (.int .i64 a0_4) ∧ w'.cell? ⟨gb232, 5, none⟩ = some (.int .i64 a0_5)) (ds := []) (bs 0 11) (by kernel_rfl) rfl rfl ⟨bc BK232.out 0, bc BK232.out 1, bc BK232.out 2, bc BK232.out 3, bc BK232.out 4, bc BK232.out 5⟩ (fun hHeld => ?_); refine with_tabW impl_formatOp.tab1 impl_formatOp.bits1 (fun HT_ HW_ => ?_)
  generalize w54.drew = w55 at BK232 HB hHeld ⊢
  refine pu (i := 0) (N := some 4) (v := ?_) (a' := ?_) (bs 1 11) rfl rfl HT_ ?_ ?_ ?_
  rotate_left
  ·intro w'
   go_simp
   with_reducible rfl
  rotate_left
  ·simp only [pA, pS, pZ, pK, i64_w, i32_w]
   rfl
  refine pu (i := 3) (N := some 7) (v := ?_) (a' := ?_) (bs 9 11) rfl rfl HT_ ?_ ?_ ?_
  rotate_left
  ·intro w'
   go_simp
   with_reducible rfl
  rotate_left
  ·simp only [pA, pS, pZ, pK, i64_w, i32_w]
   rfl
  refine pu (i := 6) (N := some 10) (v := ?_) (a' := ?_) (bs 73 11) rfl rfl HT_ ?_ ?_ ?_
  rotate_left
  ·intro w'
   go_simp
   with_reducible rfl
  rotate_left
  ·simp only [pA, pS, pZ, pK, i64_w, i32_w]
   rfl
  refine tk (i := 1) (N := some 5) (v := ?_) (a' := ?_) (bs 75 11) rfl rfl HT_ HW_ ?_ hHeld ?_ ?_
  rotate_left
  ·rintro w' ⟨s0, s1, s2, s3, s4, s5⟩
   go_simp
   with_reducible rfl
  rotate_left
  ·simp only [pA, pS, pZ, pK, i64_w, i32_w]
   rfl
  refine pu (i := 2) (N := some 6) (v := ?_) (a' := ?_) (bs 79 11) rfl rfl HT_ ?_ ?_ ?_
  rotate_left
  ·intro w'
   go_simp
   with_reducible rfl
  rotate_left
  ·simp only [pA, pS, pZ, pK, i64_w, i32_w]
   rfl
  refine tk (i := 4) (N := some 8) (v := ?_) (a' := ?_) (bs 95 11) rfl rfl HT_ HW_ ?_ hHeld ?_ ?_
  rotate_left
  ·rintro w' ⟨s0, s1, s2, s3, s4, s5⟩
   go_simp
   with_reducible rfl
  rotate_left
  ·simp only [pA, pS, pZ, pK, i64_w, i32_w]
   rfl
  refine pu (i := 5) (N := some 9) (v := ?_) (a' := ?_) (bs 127 11) rfl rfl HT_ ?_ ?_ ?_
  rotate_left
  ·intro w'
   go_simp
   with_reducible rfl
  rotate_left
  ·simp only [pA, pS, pZ, pK, i64_w, i32_w]
   rfl
  refine tk (i := 7) (N := some 11) (v := ?_) (a' := ?_) (bs 255 11) rfl rfl HT_ HW_ ?_ hHeld ?_ ?_
  rotate_left
  ·rintro w' ⟨s0, s1, s2, s3, s4, s5⟩
   go_simp
   with_reducible rfl
  rotate_left
  ·simp only [pA, pS, pZ, pK, i64_w, i32_w]
   rfl
  refine one_ (i := 8) (N := some 12) (bs 511 11) rfl rfl (one_of HT_.out (by kernel_rfl)) (by decide) (fun K hK => ?_)
  refine goes_ Tryd.func44 (by kernel_rfl) rfl #[.int .i64 a0_1] (by rfl) rfl rfl (by (try simp only [List.map_toArray, List.map_cons, List.map_nil]); first | done | rfl | (simp only [List.length_drop, List.length_take]; rfl)) ?_
  with_reducible refine (impl_FormatInt.calls a0_1 t233 _ ?side1 A6.out).mono ?_
  (case side1 => first | (with_reducible exact hTB) | exact Tryd.TB_below hTB (BT HB.out))
  rintro e w56 ⟨rfl, hb⟩
  refine ⟨_, rfl, ?_⟩
  replace BK232 := AM_ (BB BK232.out hb)
  replace HB := AM_ (below_step (BT HB.out) hb)
  (try clear hb)
  (try clear hb2)
  (try clear hk)
  (try clear hi)
  refine hK.out _ _ ⟨bc BK232.out 0, bc BK232.out 1, bc BK232.out 2, bc BK232.out 3, bc BK232.out 4, bc BK232.out 5⟩ (fun hHeld => ?_)
  clear hK K
  refine norm_ (a' := ?_) ?_ ?_
  rotate_left
  ·show Act.put _ (some 12) _ = _
   simp only [pA, pS, pZ, pK, i64_w, i32_w]
   rfl
  refine pu (i := 9) (N := some 13) (v := ?_) (a' := ?_) (bs 1023 11) rfl rfl HT_ ?_ ?_ ?_
  rotate_left
  ·intro w'
   go_simp
   with_reducible rfl
  rotate_left
  ·simp only [pA, pS, pZ, pK, i64_w, i32_w]
   rfl
  refine pu (i := 10) (N := some 3) (v := ?_) (a' := ?_) (bs 2047 11) rfl rfl HT_ ?_ ?_ ?_
  rotate_left
  ·intro w'
   go_simp
   with_reducible rfl
  rotate_left
  ·simp only [pA, pS, pZ, pK, i64_w, i32_w]
   rfl
  refine done_ (done_of HT_.out (by kernel_rfl)) ?_
  obtain ⟨hcz57_0, hcz57_1, hcz57_2, hcz57_3, hcz57_4, hcz57_5, hfz57_0, hfz57_1, hfz57_2, hfz57_3, hfz57_4, hfz57_5⟩ := bk6 BK232.out
  try go_wp2
  go_ret
  exact ⟨by first | rfl | (simp [errW_none, errW_some] <;> rfl) | (simp only [← hji2]; first | rfl | (simp [errW_none, errW_some] <;> rfl)) | (simp [*, errW_none, errW_some] <;> rfl), BT HB.out⟩
 rw [if_pos c40] at H
 have c40b0 : (a0_0 == 4) = true := beq_iff_eq.mpr c40
 have c40b1 : (a0_0 != 4) = false := bne_eq_false_iff_eq.mpr c40
 clear c40
 by_cases c41 : (((⟨#[98, 114, 119, 115, 99, 97]⟩ : ByteArray).extract ((ji2) : Int).toNat (a0_0 : Int).toNat) ++ t233).size + 1 ≤ 9223372036854775807
 rotate_left
 ·rw [if_neg c41] at H
  exact absurd H (by simp)
 rw [if_pos c41] at H
 have c41b0 := eq_true c41
 have c41b1 : decide ((((⟨#[98, 114, 119, 115, 99, 97]⟩ : ByteArray).extract ((ji2) : Int).toNat (a0_0 : Int).toNat) ++ t233).size + 1 ≤ 9223372036854775807) = true := decide_eq_true c41
 try have c41b2 : (9223372036854775807 < (((⟨#[98, 114, 119, 115, 99, 97]⟩ : ByteArray).extract ((ji2) : Int).toNat (a0_0 : Int).toNat) ++ t233).size + 1) = False := eq_false (Nat.not_lt.2 c41)
 try have c41b3 : (9223372036854775807 < (a0_0 : Int).toNat - ((ji2) : Int).toNat + t233.size + 1) = False := by have h_ := c41; have hq_ : a0_0 ≤ 6 := of_decide_eq_true (by assumption); have h1_ : (⟨#[32]⟩ : ByteArray).size = 1 := rfl; have hl_ : (⟨#[98, 114, 119, 115, 99, 97]⟩ : ByteArray).size = 6 := rfl; simp only [ByteArray.size_append, ByteArray.size_extract, h1_, hl_] at h_; exact eq_false (by omega)
 replace H := Option.bind_eq_some_iff.mp H
 obtain ⟨t238, A420, H⟩ := H
 replace H : (if ((((⟨#[98, 114, 119, 115, 99, 97]⟩ : ByteArray).extract ((ji2) : Int).toNat (a0_0 : Int).toNat) ++ t233) ++ (⟨#[32]⟩ : ByteArray)).size + t238.size ≤ 9223372036854775807 then (if (((((⟨#[98, 114, 119, 115, 99, 97]⟩ : ByteArray).extract ((ji2) : Int).toNat (a0_0 : Int).toNat) ++ t233) ++ (⟨#[32]⟩ : ByteArray)) ++ t238).size + 1 ≤ 9223372036854775807 then ((impl_FormatInt.f a0_4).bind fun t239 => (if ((((((⟨#[98, 114, 119, 115, 99, 97]⟩ : ByteArray).extract ((ji2) : Int).toNat (a0_0 : Int).toNat) ++ t233) ++ (⟨#[32]⟩ : ByteArray)) ++ t238) ++ (⟨#[32]⟩ : ByteArray)).size + t239.size ≤ 9223372036854775807 then (some (((((((⟨#[98, 114, 119, 115, 99, 97]⟩ : ByteArray).extract ((ji2) : Int).toNat (a0_0 : Int).toNat) ++ t233) ++ (⟨#[32]⟩ : ByteArray)) ++ t238) ++ (⟨#[32]⟩ : ByteArray)) ++ t239)) else (none))) else (none)) else (none)) = some r := H
 have A42 := AM_ A420
 clear A420
 by_cases c43 : ((((⟨#[98, 114, 119, 115, 99, 97]⟩ : ByteArray).extract ((ji2) : Int).toNat (a0_0 : Int).toNat) ++ t233) ++ (⟨#[32]⟩ : ByteArray)).size + t238.size ≤ 9223372036854775807
 rotate_left
 ·rw [if_neg c43] at H
  exact absurd H (by simp)
 rw [if_pos c43] at H
 have c43b0 := eq_true c43
 have c43b1 : decide (((((⟨#[98, 114, 119, 115, 99, 97]⟩ : ByteArray).extract ((ji2) : Int).toNat (a0_0 : Int).toNat) ++ t233) ++ (⟨#[32]⟩ : ByteArray)).size + t238.size ≤ 9223372036854775807) = true := decide_eq_true c43
 try have c43b2 : (9223372036854775807 < ((((⟨#[98, 114, 119, 115, 99, 97]⟩ : ByteArray).extract ((ji2) : Int).toNat (a0_0 : Int).toNat) ++ t233) ++ (⟨#[32]⟩ : ByteArray)).size + t238.size) = False := eq_false (Nat.not_lt.2 c43)
 try have c43b3 : (9223372036854775807 < (a0_0 : Int).toNat - ((ji2) : Int).toNat + t233.size + 1 + t238.size) = False := by have h_ := c43; have hq_ : a0_0 ≤ 6 := of_decide_eq_true (by assumption); have h1_ : (⟨#[32]⟩ : ByteArray).size = 1 := rfl; have hl_ : (⟨#[98, 114, 119, 115, 99, 97]⟩ : ByteArray).size = 6 := rfl; simp only [ByteArray.size_append, ByteArray.size_extract, h1_, hl_] at h_; exact eq_false (by omega)
 by_cases c44 : (((((⟨#[98, 114, 119, 115, 99, 97]⟩ : ByteArray).extract ((ji2) : Int).toNat (a0_0 : Int).toNat) ++ t233) ++ (⟨#[32]⟩ : ByteArray)) ++ t238).size + 1 ≤ 9223372036854775807
 rotate_left
 ·rw [if_neg c44] at H
  exact absurd H (by simp)
 rw [if_pos c44] at H
 have c44b0 := eq_true c44
 have c44b1 : decide ((((((⟨#[98, 114, 119, 115, 99, 97]⟩ : ByteArray).extract ((ji2) : Int).toNat (a0_0 : Int).toNat) ++ t233) ++ (⟨#[32]⟩ : ByteArray)) ++ t238).size + 1 ≤ 9223372036854775807) = true := decide_eq_true c44
 try have c44b2 : (9223372036854775807 < (((((⟨#[98, 114, 119, 115, 99, 97]⟩ : ByteArray).extract ((ji2) : Int).toNat (a0_0 : Int).toNat) ++ t233) ++ (⟨#[32]⟩ : ByteArray)) ++ t238).size + 1) = False := eq_false (Nat.not_lt.2 c44)
 try have c44b3 : (9223372036854775807 < (a0_0 : Int).toNat - ((ji2) : Int).toNat + t233.size + 1 + t238.size + 1) = False := by have h_ := c44; have hq_ : a0_0 ≤ 6 := of_decide_eq_true (by assumption); have h1_ : (⟨#[32]⟩ : ByteArray).size = 1 := rfl; have hl_ : (⟨#[98, 114, 119, 115, 99, 97]⟩ : ByteArray).size = 6 := rfl; simp only [ByteArray.size_append, ByteArray.size_extract, h1_, hl_] at h_; exact eq_false (by omega)
 replace H := Option.bind_eq_some_iff.mp H
 obtain ⟨t239, A450, H⟩ := H
 replace H : (if ((((((⟨#[98, 114, 119, 115, 99, 97]⟩ : ByteArray).extract ((ji2) : Int).toNat (a0_0 : Int).toNat) ++ t233) ++ (⟨#[32]⟩ : ByteArray)) ++ t238) ++ (⟨#[32]⟩ : ByteArray)).size + t239.size ≤ 9223372036854775807 then (some (((((((⟨#[98, 114, 119, 115, 99, 97]⟩ : ByteArray).extract ((ji2) : Int).toNat (a0_0 : Int).toNat) ++ t233) ++ (⟨#[32]⟩ : ByteArray)) ++ t238) ++ (⟨#[32]⟩ : ByteArray)) ++ t239)) else (none)) = some r := H
 have A45 := AM_ A450
 clear A450
 by_cases c46 : ((((((⟨#[98, 114, 119, 115, 99, 97]⟩ : ByteArray).extract ((ji2) : Int).toNat (a0_0 : Int).toNat) ++ t233) ++ (⟨#[32]⟩ : ByteArray)) ++ t238) ++ (⟨#[32]⟩ : ByteArray)).size + t239.size ≤ 9223372036854775807
 rotate_left
 ·rw [if_neg c46] at H
  exact absurd H (by simp)
 rw [if_pos c46] at H
 have c46b0 := eq_true c46
 have c46b1 : decide (((((((⟨#[98, 114, 119, 115, 99, 97]⟩ : ByteArray).extract ((ji2) : Int).toNat (a0_0 : Int).toNat) ++ t233) ++ (⟨#[32]⟩ : ByteArray)) ++ t238) ++ (⟨#[32]⟩ : ByteArray)).size + t239.size ≤ 9223372036854775807) = true := decide_eq_true c46
 try have c46b2 : (9223372036854775807 < ((((((⟨#[98, 114, 119, 115, 99, 97]⟩ : ByteArray).extract ((ji2) : Int).toNat (a0_0 : Int).toNat) ++ t233) ++ (⟨#[32]⟩ : ByteArray)) ++ t238) ++ (⟨#[32]⟩ : ByteArray)).size + t239.size) = False := eq_false (Nat.not_lt.2 c46)
 try have c46b3 : (9223372036854775807 < (a0_0 : Int).toNat - ((ji2) : Int).toNat + t233.size + 1 + t238.size + 1 + t239.size) = False := by have h_ := c46; have hq_ : a0_0 ≤ 6 := of_decide_eq_true (by assumption); have h1_ : (⟨#[32]⟩ : ByteArray).size = 1 := rfl; have hl_ : (⟨#[98, 114, 119, 115, 99, 97]⟩ : ByteArray).size = 6 := rfl; simp only [ByteArray.size_append, ByteArray.size_extract, h1_, hl_] at h_; exact eq_false (by omega)
 obtain rfl := Option.some.inj H
 go_enter Tryd.func19, Tryd.ntmps19
 try go_wp2_with (first | ((with_reducible refine gate_dst (N := 1) rfl ?_); refine box_event ?hg (N := 1) ?hd (cs := #[.int .i64 a0_0, .int .i64 a0_1, .int .i64 a0_2, .int .i64 a0_3, .int .i64 a0_4, .int .i64 a0_5]) (t := 25) ?hr ?_; (case hd => rfl); (case hg => rfl); (case hr => first | (go_simp; done) | (go_simp; rfl)); intro gb232 hg w47 hbox hb; have BK232 := AM_ (hbox); have GW232 := AM_ ((GS HB.out hg)); have GE232 := AM_ ((GS HB.out hg)); replace HB := AM_ (below_step (BT HB.out) hb); clear hb hbox hg))
 replace BK232 := AM_ (blk_drew BK232.out)
 replace HB := AM_ (below_drew1 HB.out)
 refine start_ (n := 11) (S := fun w' => w'.cell? ⟨gb232, 0, none⟩ = some (.int .i64 a0_0) ∧ w'.cell? ⟨gb232, 1, none⟩ = some (.int .i64 a0_1) ∧ w'.cell? ⟨gb232, 2, none⟩ = some (.int .i64 a0_2) ∧ w'.cell? ⟨gb232, 3, none⟩ = some (.int .i64 a0_3) ∧ w'.cell? ⟨gb232, 4, none⟩ = some (.int .i64 a0_4) ∧ w'.cell? ⟨gb232, 5, none⟩ = some (.int .i64 a0_5)) (ds := []) (bs 0 11) (by kernel_rfl) rfl rfl ⟨bc BK232.out 0, bc BK232.out 1, bc BK232.out 2, bc BK232.out 3, bc BK232.out 4, bc BK232.out 5⟩ (fun hHeld => ?_); refine with_tabW impl_formatOp.tab1 impl_formatOp.bits1 (fun HT_ HW_ => ?_)
 generalize w47.drew = w48 at BK232 HB hHeld ⊢
 refine pu (i := 0) (N := some 4) (v := ?_) (a' := ?_) (bs 1 11) rfl rfl HT_ ?_ ?_ ?_
 rotate_left
 ·intro w'
  go_simp
  with_reducible rfl
 rotate_left
 ·simp only [pA, pS, pZ, pK, i64_w, i32_w]
  rfl
 refine pu (i := 3) (N := some 7) (v := ?_) (a' := ?_) (bs 9 11) rfl rfl HT_ ?_ ?_ ?_
 rotate_left
 ·intro w'
  go_simp
  with_reducible rfl
 rotate_left
 ·simp only [pA, pS, pZ, pK, i64_w, i32_w]
  rfl
 refine pu (i := 6) (N := some 10) (v := ?_) (a' := ?_) (bs 73 11) rfl rfl HT_ ?_ ?_ ?_
 rotate_left
 ·intro w'
  go_simp
  with_reducible rfl
 rotate_left
 ·simp only [pA, pS, pZ, pK, i64_w, i32_w]
  rfl
 refine tk (i := 1) (N := some 5) (v := ?_) (a' := ?_) (bs 75 11) rfl rfl HT_ HW_ ?_ hHeld ?_ ?_
 rotate_left
 ·rintro w' ⟨s0, s1, s2, s3, s4, s5⟩
  go_simp
  with_reducible rfl
 rotate_left
 ·simp only [pA, pS, pZ, pK, i64_w, i32_w]
  rfl
 refine pu (i := 2) (N := some 6) (v := ?_) (a' := ?_) (bs 79 11) rfl rfl HT_ ?_ ?_ ?_
 rotate_left
 ·intro w'
  go_simp
  with_reducible rfl
 rotate_left
 ·simp only [pA, pS, pZ, pK, i64_w, i32_w]
  rfl
 refine tk (i := 4) (N := some 8) (v := ?_) (a' := ?_) (bs 95 11) rfl rfl HT_ HW_ ?_ hHeld ?_ ?_
 rotate_left
 ·rintro w' ⟨s0, s1, s2, s3, s4, s5⟩
  go_simp
  with_reducible rfl
 rotate_left
 ·simp only [pA, pS, pZ, pK, i64_w, i32_w]
  rfl
 refine pu (i := 5) (N := some 9) (v := ?_) (a' := ?_) (bs 127 11) rfl rfl HT_ ?_ ?_ ?_
 rotate_left
 ·intro w'
  go_simp
  with_reducible rfl
 rotate_left
 ·simp only [pA, pS, pZ, pK, i64_w, i32_w]
  rfl
 refine tk (i := 7) (N := some 11) (v := ?_) (a' := ?_) (bs 255 11) rfl rfl HT_ HW_ ?_ hHeld ?_ ?_
 rotate_left
 ·rintro w' ⟨s0, s1, s2, s3, s4, s5⟩
  go_simp
  with_reducible rfl
 rotate_left
 ·simp only [pA, pS, pZ, pK, i64_w, i32_w]
  rfl
 refine one_ (i := 8) (N := some 12) (bs 511 11) rfl rfl (one_of HT_.out (by kernel_rfl)) (by decide) (fun K hK => ?_)
 refine goes_ Tryd.func44 (by kernel_rfl) rfl #[.int .i64 a0_1] (by rfl) rfl rfl (by (try simp only [List.map_toArray, List.map_cons, List.map_nil]); first | done | rfl | (simp only [List.length_drop, List.length_take]; rfl)) ?_
 with_reducible refine (impl_FormatInt.calls a0_1 t233 _ ?side1 A6.out).mono ?_
 (case side1 => first | (with_reducible exact hTB) | exact Tryd.TB_below hTB (BT HB.out))
 rintro e w49 ⟨rfl, hb⟩
 refine ⟨_, rfl, ?_⟩
 replace BK232 := AM_ (BB BK232.out hb)
 replace HB := AM_ (below_step (BT HB.out) hb)
 (try clear hb)
 (try clear hb2)
 (try clear hk)
 (try clear hi)
 refine hK.out _ _ ⟨bc BK232.out 0, bc BK232.out 1, bc BK232.out 2, bc BK232.out 3, bc BK232.out 4, bc BK232.out 5⟩ (fun hHeld => ?_)
 clear hK K
 refine norm_ (a' := ?_) ?_ ?_
 rotate_left
 ·show Act.put _ (some 12) _ = _
  simp only [pA, pS, pZ, pK, i64_w, i32_w]
  rfl
 refine pu (i := 9) (N := some 13) (v := ?_) (a' := ?_) (bs 1023 11) rfl rfl HT_ ?_ ?_ ?_
 rotate_left
 ·intro w'
  go_simp
  with_reducible rfl
 rotate_left
 ·simp only [pA, pS, pZ, pK, i64_w, i32_w]
  rfl
 refine pu (i := 10) (N := some 3) (v := ?_) (a' := ?_) (bs 2047 11) rfl rfl HT_ ?_ ?_ ?_
 rotate_left
 ·intro w'
  go_simp
  with_reducible rfl
 rotate_left
 ·simp only [pA, pS, pZ, pK, i64_w, i32_w]
  rfl
 refine done_ (done_of HT_.out (by kernel_rfl)) ?_
 obtain ⟨hcz50_0, hcz50_1, hcz50_2, hcz50_3, hcz50_4, hcz50_5, hfz50_0, hfz50_1, hfz50_2, hfz50_3, hfz50_4, hfz50_5⟩ := bk6 BK232.out
 try go_wp2
 replace BK232 := AM_ (blk_drew BK232.out)
 replace HB := AM_ (below_drew1 HB.out)
 refine start_ (n := 12) (S := fun w' => w'.cell? ⟨gb232, 0, none⟩ = some (.int .i64 a0_0) ∧ w'.cell? ⟨gb232, 1, none⟩ = some (.int .i64 a0_1) ∧ w'.cell? ⟨gb232, 2, none⟩ = some (.int .i64 a0_2) ∧ w'.cell? ⟨gb232, 3, none⟩ = some (.int .i64 a0_3) ∧ w'.cell? ⟨gb232, 4, none⟩ = some (.int .i64 a0_4) ∧ w'.cell? ⟨gb232, 5, none⟩ = some (.int .i64 a0_5)) (ds := []) (bs 0 12) (by kernel_rfl) rfl rfl ⟨bc BK232.out 0, bc BK232.out 1, bc BK232.out 2, bc BK232.out 3, bc BK232.out 4, bc BK232.out 5⟩ (fun hHeld => ?_); refine with_tabW impl_formatOp.tab10 impl_formatOp.bits10 (fun HT_ HW_ => ?_)
 generalize w49.drew = w51 at BK232 HB hHeld ⊢
 refine pu (i := 0) (N := some 47) (v := ?_) (a' := ?_) (bs 1 12) rfl rfl HT_ ?_ ?_ ?_
 rotate_left
 ·intro w'
  go_simp
  with_reducible rfl
 rotate_left
 ·simp only [pA, pS, pZ, pK, i64_w, i32_w]
  rfl
 refine pu (i := 1) (N := some 48) (v := ?_) (a' := ?_) (bs 3 12) rfl rfl HT_ ?_ ?_ ?_
 rotate_left
 ·intro w'
  go_simp
  with_reducible rfl
 rotate_left
 ·simp only [pA, pS, pZ, pK, i64_w, i32_w]
  rfl
 refine pu (i := 2) (N := some 49) (v := ?_) (a' := ?_) (bs 7 12) rfl rfl HT_ ?_ ?_ ?_
 rotate_left
 ·intro w'
  go_simp
  with_reducible rfl
 rotate_left
 ·simp only [pA, pS, pZ, pK, i64_w, i32_w]
  rfl
 refine pu (i := 7) (N := some 54) (v := ?_) (a' := ?_) (bs 135 12) rfl rfl HT_ ?_ ?_ ?_
 rotate_left
 ·intro w'
  go_simp
  with_reducible rfl
 rotate_left
 ·simp only [pA, pS, pZ, pK, i64_w, i32_w]
  rfl
 refine tk (i := 3) (N := some 50) (v := ?_) (a' := ?_) (bs 143 12) rfl rfl HT_ HW_ ?_ hHeld ?_ ?_
 rotate_left
 ·rintro w' ⟨s0, s1, s2, s3, s4, s5⟩
  go_simp
  with_reducible rfl
 rotate_left
 ·simp only [pA, pS, pZ, pK, i64_w, i32_w]
  rfl
 refine tk (i := 8) (N := some 55) (v := ?_) (a' := ?_) (bs 399 12) rfl rfl HT_ HW_ ?_ hHeld ?_ ?_
 rotate_left
 ·rintro w' ⟨s0, s1, s2, s3, s4, s5⟩
  go_simp
  with_reducible rfl
 rotate_left
 ·simp only [pA, pS, pZ, pK, i64_w, i32_w]
  rfl
 refine one_ (i := 4) (N := some 51) (bs 415 12) rfl rfl (one_of HT_.out (by kernel_rfl)) (by decide) (fun K hK => ?_)
 refine goes_ Tryd.func44 (by kernel_rfl) rfl #[.int .i64 a0_3] (by rfl) rfl rfl (by (try simp only [List.map_toArray, List.map_cons, List.map_nil]); first | done | rfl | (simp only [List.length_drop, List.length_take]; rfl)) ?_
 with_reducible refine (impl_FormatInt.calls a0_3 t238 _ ?side1 A42.out).mono ?_
 (case side1 => first | (with_reducible exact hTB) | exact Tryd.TB_below hTB (BT HB.out))
 rintro e w52 ⟨rfl, hb⟩
 refine ⟨_, rfl, ?_⟩
 replace BK232 := AM_ (BB BK232.out hb)
 replace HB := AM_ (below_step (BT HB.out) hb)
 (try clear hb)
 (try clear hb2)
 (try clear hk)
 (try clear hi)
 refine hK.out _ _ ⟨bc BK232.out 0, bc BK232.out 1, bc BK232.out 2, bc BK232.out 3, bc BK232.out 4, bc BK232.out 5⟩ (fun hHeld => ?_)
 clear hK K
 refine norm_ (a' := ?_) ?_ ?_
 rotate_left
 ·show Act.put _ (some 51) _ = _
  simp only [pA, pS, pZ, pK, i64_w, i32_w]
  rfl
 refine pu (i := 5) (N := some 52) (v := ?_) (a' := ?_) (bs 447 12) rfl rfl HT_ ?_ ?_ ?_
 rotate_left
 ·intro w'
  go_simp
  with_reducible rfl
 rotate_left
 ·simp only [pA, pS, pZ, pK, i64_w, i32_w]
  rfl
 refine pu (i := 6) (N := some 53) (v := ?_) (a' := ?_) (bs 511 12) rfl rfl HT_ ?_ ?_ ?_
 rotate_left
 ·intro w'
  go_simp
  with_reducible rfl
 rotate_left
 ·simp only [pA, pS, pZ, pK, i64_w, i32_w]
  rfl
 refine one_ (i := 9) (N := some 56) (bs 1023 12) rfl rfl (one_of HT_.out (by kernel_rfl)) (by decide) (fun K hK => ?_)
 refine goes_ Tryd.func44 (by kernel_rfl) rfl #[.int .i64 a0_4] (by rfl) rfl rfl (by (try simp only [List.map_toArray, List.map_cons, List.map_nil]); first | done | rfl | (simp only [List.length_drop, List.length_take]; rfl)) ?_
 with_reducible refine (impl_FormatInt.calls a0_4 t239 _ ?side1 A45.out).mono ?_
 (case side1 => first | (with_reducible exact hTB) | exact Tryd.TB_below hTB (BT HB.out))
 rintro e w53 ⟨rfl, hb⟩
 refine ⟨_, rfl, ?_⟩
 replace BK232 := AM_ (BB BK232.out hb)
 replace HB := AM_ (below_step (BT HB.out) hb)
 (try clear hb)
 (try clear hb2)
 (try clear hk)
 (try clear hi)
 refine hK.out _ _ ⟨bc BK232.out 0, bc BK232.out 1, bc BK232.out 2, bc BK232.out 3, bc BK232.out 4, bc BK232.out 5⟩ (fun hHeld => ?_)
 clear hK K
 refine norm_ (a' := ?_) ?_ ?_
 rotate_left
 ·show Act.put _ (some 56) _ = _
  simp only [pA, pS, pZ, pK, i64_w, i32_w]
  rfl
 refine pu (i := 10) (N := some 57) (v := ?_) (a' := ?_) (bs 2047 12) rfl rfl HT_ ?_ ?_ ?_
 rotate_left
 ·intro w'
  go_simp
  with_reducible rfl
 rotate_left
 ·simp only [pA, pS, pZ, pK, i64_w, i32_w]
  rfl
 refine pu (i := 11) (N := some 2) (v := ?_) (a' := ?_) (bs 4095 12) rfl rfl HT_ ?_ ?_ ?_
 rotate_left
 ·intro w'
  go_simp
  with_reducible rfl
 rotate_left
 ·simp only [pA, pS, pZ, pK, i64_w, i32_w]
  rfl
 refine done_ (done_of HT_.out (by kernel_rfl)) ?_
 try go_wp2
 go_ret
 exact ⟨by first | rfl | (simp [errW_none, errW_some] <;> rfl) | (simp only [← hji2]; first | rfl | (simp [errW_none, errW_some] <;> rfl)) | (simp [*, errW_none, errW_some] <;> rfl), BT HB.out⟩

end Go.Proofs.YtdfbmaiboadodaaDoor.PFnOps
