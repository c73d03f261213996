/- Part of the proofs: what functions of the program do: plain functions, and the walks that show it. No condition. -/
import Derived.KernelRfl
import Derived.Test.YtnolgfdjcipmmaaDoorLe
import Derived.Test.YtnolgfdjcipmmaaDoorSwords
set_option linter.unusedVariables false
set_option linter.unusedSimpArgs false
set_option autoImplicit false
namespace Go.Proofs.YtnolgfdjcipmmaaDoor.M
open Go
def I64 (x:Int):Prop:=-9223372036854775808≤x∧x < 9223372036854775808
instance (x:Int):Decidable (I64 x):=inferInstanceAs (Decidable (-9223372036854775808≤x∧x < 9223372036854775808))
noncomputable def zyb (x y:UInt64):UInt64:=lock (UInt64.ofNat (x.toNat*y.toNat / 18446744073709551616))
noncomputable def zq8 (x y:UInt64):UInt64:=lock (x*y)
end Go.Proofs.YtnolgfdjcipmmaaDoor.M
