/- Part of the proofs: what functions of the program do: plain functions, and the walks that show it. No condition. -/
import Derived.KernelRfl
import Derived.Test.YtnolgfdjcipmmaaDoorLe
import Derived.Test.YtnolgfdjcipmmaaDoorSshaS
import Derived.Test.YtnolgfdjcipmmaaDoorSwords
set_option linter.unusedVariables false
set_option linter.unusedSimpArgs false
set_option autoImplicit false
namespace Go.Proofs.YtnolgfdjcipmmaaDoor.M
open Go
end Go.Proofs.YtnolgfdjcipmmaaDoor.M
namespace Go.Proofs.YtnolgfdjcipmmaaDoor.M
open Go
end Go.Proofs.YtnolgfdjcipmmaaDoor.M
