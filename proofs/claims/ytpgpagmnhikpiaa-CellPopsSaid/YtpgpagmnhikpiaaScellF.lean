/- Part of the proofs: what functions of the program do: plain functions, and the walks that show it. No condition. -/
import Derived.KernelRfl
import Derived.Test.YtpgpagmnhikpiaaLd
import Derived.Test.YtpgpagmnhikpiaaScellS
set_option linter.unusedVariables false
set_option linter.unusedSimpArgs false
set_option autoImplicit false
namespace Go.Proofs.Ytpgpagmnhikpiaa.M
open Go
theorem cellsW_fit {xs : List PV} (h : ∀ x ∈ xs, Fit (.sl .u8) x) : cellsW xs = true := by
  refine List.all_eq_true.2 fun x hx => ?_
  obtain ⟨ys, rfl, _, hl⟩ := h x hx
  have hl : ys.length * 1 ≤ 140737488351232 := hl
  exact Nat.ble_eq_true_of_le (by omega)
end Go.Proofs.Ytpgpagmnhikpiaa.M
