/- Part of the proofs: what functions of the program do: plain functions, and the walks that show it. No condition. -/
import Derived.KernelRfl
import Derived.Test.YtgecpcajmhgboaaLe
import Derived.Test.YtgecpcajmhgboaaSdevS
import Derived.Test.YtgecpcajmhgboaaSdevT
import Derived.Test.YtgecpcajmhgboaaSdevA
import Derived.Test.YtgecpcajmhgboaaSdevR
import Derived.Test.YtgecpcajmhgboaaSdevD
import Derived.Test.YtgecpcajmhgboaaSdevL
set_option linter.unusedVariables false
set_option linter.unusedSimpArgs false
set_option autoImplicit false
namespace Go.Proofs.Ytgecpcajmhgboaa.M
open Go
theorem actsW_fit {xs : List PV} (h : ∀ x ∈ xs, Fit (.st [.sc .i, .sc .i, .sl .u8, .sc .u8, .sc .i, .sc .i]) x) : actsW xs = true := by
  refine List.all_eq_true.2 fun x hx => ?_
  obtain ⟨_, rfl, _, _, rfl, ⟨a, rfl, _⟩, _, _, rfl, ⟨b, rfl, _⟩, _, _, rfl, ⟨c, rfl, _⟩, _, _, rfl, ⟨d, rfl, _⟩, _, _, rfl, ⟨e, rfl, _⟩, _, _, rfl, ⟨f, rfl, _⟩, rfl⟩ := h x hx
  rfl
end Go.Proofs.Ytgecpcajmhgboaa.M
