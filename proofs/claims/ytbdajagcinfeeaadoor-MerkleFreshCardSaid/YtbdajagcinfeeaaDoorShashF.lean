/- Part of the proofs: what functions of the program do: plain functions, and the walks that show it. No condition. -/
import Derived.KernelRfl
import Derived.Test.YtbdajagcinfeeaaDoorLe
import Derived.Test.YtbdajagcinfeeaaDoorSmerS
set_option linter.unusedVariables false
set_option linter.unusedSimpArgs false
set_option autoImplicit false
namespace Go.Proofs.YtbdajagcinfeeaaDoor.M
open Go
theorem hashesW_fit {xs : List PV} (h : ∀ x ∈ xs, Fit (.arr .u8 32) x) : hashesW xs = true := by
  refine List.all_eq_true.2 fun x hx => ?_
  obtain ⟨v, rfl, _⟩ := h x hx
  rfl
end Go.Proofs.YtbdajagcinfeeaaDoor.M
