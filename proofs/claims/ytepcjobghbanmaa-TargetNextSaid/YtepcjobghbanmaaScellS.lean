/- Part of the proofs: what functions of the program do: plain functions, and the walks that show it. No condition. -/
import Derived.KernelRfl
import Derived.Test.YtepcjobghbanmaaLd
import Derived.Test.YtepcjobghbanmaaSwords
set_option linter.unusedVariables false
set_option linter.unusedSimpArgs false
set_option autoImplicit false
namespace Go.Proofs.Ytepcjobghbanmaa.M
open Go
/-! numbers on a stack -/
def I64 (x : Int) : Prop := -9223372036854775808 ≤ x ∧ x < 9223372036854775808
instance (x : Int) : Decidable (I64 x) := inferInstanceAs (Decidable (-9223372036854775808 ≤ x ∧ x < 9223372036854775808))
def ckI (x : Int) : Int × Int := if -9223372036854775808 ≤ x ∧ x < 9223372036854775808 then (x, 0) else (0, 3)
/-- the operators -/
def twoS (op : UInt8) (a b : Int) : Int × Int :=
  if op = 13 then ckI (a + b) else if op = 14 then ckI (a - b) else if op = 15 then ckI (a * b) else if op = 16 then (if a < b then (1, 0) else (0, 0)) else (0, 2)
noncomputable def mulHi (x y : UInt64) : UInt64 := lock (UInt64.ofNat (x.toNat * y.toNat / 18446744073709551616))
noncomputable def mulLo (x y : UInt64) : UInt64 := lock (x * y)
theorem eqb_t (b : Bool) : eqb b true = b := by cases b <;> rfl
theorem eqb_f (b : Bool) : eqb b false = !b := by cases b <;> rfl
theorem cond_dec {α : Type} (p : Prop) [Decidable p] (x y : α) : (bif decide p then x else y) = if p then x else y := by by_cases h : p <;> simp [h]
theorem cond_if {α : Type} (b : Bool) (x y : α) : (bif b then x else y) = if b = true then x else y := by cases b <;> rfl
theorem w64_over {x : Int} (h : 9223372036854775808 ≤ x) (h2 : x < 27670116110564327424) : w64 x = x - 18446744073709551616 := by
  rw [w64_eq]; split <;> omega
theorem w64_under {x : Int} (h : x < -9223372036854775808) (h2 : -27670116110564327424 ≤ x) : w64 x = x + 18446744073709551616 := by
  rw [w64_eq]; split <;> omega
theorem w64_three (x : Int) (h1 : -18446744073709551616 ≤ x) (h2 : x < 18446744073709551616) : (I64 x ∧ w64 x = x ∧ ckI x = (x, 0)) ∨ (9223372036854775808 ≤ x ∧ w64 x = x - 18446744073709551616 ∧ ckI x = (0, 3)) ∨ (x < -9223372036854775808 ∧ w64 x = x + 18446744073709551616 ∧ ckI x = (0, 3)) := by
  by_cases h : -9223372036854775808 ≤ x ∧ x < 9223372036854775808
  · exact .inl ⟨h, w64_id h.1 h.2, if_pos h⟩
  · by_cases h3 : 9223372036854775808 ≤ x
    · exact .inr (.inl ⟨h3, w64_over h3 (by omega), if_neg h⟩)
    · exact .inr (.inr ⟨by omega, w64_under (by omega) (by omega), if_neg h⟩)
end Go.Proofs.Ytepcjobghbanmaa.M
