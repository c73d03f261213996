/- Part of the proofs: what functions of the program do: plain functions, and the walks that show it. No condition. -/
import Derived.Test.YtbdajagcinfeeaaDoorRows
import Derived.Test.YtbdajagcinfeeaaDoorSshaK
import Derived.Test.YtbdajagcinfeeaaDoorLe
set_option linter.unusedVariables false
set_option linter.unusedSimpArgs false
set_option autoImplicit false
namespace Go.Proofs.YtbdajagcinfeeaaDoor.M
open Go
open Go.Proofs.YtbdajagcinfeeaaDoor
theorem shaK_lits : Rows.laid_moneyer_sha_k (H := Unit) = .agg (shaK.toList.map fun y => .lit (EK.lit .u32 y)) := by kernel_rfl
theorem globs {W : World} (h : laidMet Tryd.prog [("moneyer/sha.k", Rows.laid_moneyer_sha_k)] W) : GlobOK theG (fun b => b < W.heap.size) W.heap := by
  intro g x hx
  unfold theG at hx
  cases hq : Nat.beq g 0 with
  | true =>
    rw [hq] at hx
    cases hx
    have hg := nb hq
    subst hg
    exact glob_arr (k := .u32) (t := (Tryd.prog.globals[0]?.map (·.type)).getD 0) (fun _ h => h) h (List.mem_singleton.2 rfl) (by kernel_rfl) (by kernel_rfl) (by kernel_rfl) shaK_lits
  | false => rw [hq] at hx; cases hx
end Go.Proofs.YtbdajagcinfeeaaDoor.M
