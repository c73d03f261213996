/- Part of the proofs: what functions of the program do: plain functions, and the walks that show it. No condition. -/
import Derived.KernelRfl
import Derived.Test.YtgecpcajmhgboaaLe
set_option linter.unusedVariables false
set_option linter.unusedSimpArgs false
set_option autoImplicit false
namespace Go.Proofs.Ytgecpcajmhgboaa.M
open Go
/-! words on loops -/
section
variable {α : Type}
theorem vget_get {n : Nat} (v : Vector α n) (j : Nat) (d : α) (h : j < n) : v.toList.getD j d = v[j] := by
  simp [List.getD, h]
end
end Go.Proofs.Ytgecpcajmhgboaa.M
