/- Part of the proofs: what functions of the program do: plain functions, and the walks that show it. No condition. -/
import Derived.Test.YtnolgfdjcipmmaaDoorRows
import Derived.Test.YtnolgfdjcipmmaaDoorSshaK
import Derived.Test.YtnolgfdjcipmmaaDoorLe
set_option linter.unusedVariables false
set_option linter.unusedSimpArgs false
set_option autoImplicit false
namespace Go.Proofs.YtnolgfdjcipmmaaDoor.M
open Go
open Go.Proofs.YtnolgfdjcipmmaaDoor
theorem zG4:Rows.laid_moneyer_sha_k (H:=Unit)=.agg (shaK.toList.map fun y=>.lit (EK.lit .u32 y)):=by kernel_rfl
theorem globs {W:World} (h:laidMet Tryd.prog [("moneyer/sha.k", Rows.laid_moneyer_sha_k)] W):zln theG (fun b=>b < W.heap.size) W.heap:=by
 intro g x hx
 unfold theG at hx
 cases hq:Nat.beq g 0 with
 | true =>
  rw[hq]at hx
  cases hx
  have hg:=nb hq
  subst hg
  exact zH6 (k:=.u32) (t:=(Tryd.prog.globals[0]?.map (·.type)).getD 0) (fun _ h=>h) h (List.mem_singleton.2 rfl) (by kernel_rfl) (by kernel_rfl) (by kernel_rfl) zG4
 | false=>rw[hq]at hx; cases hx
end Go.Proofs.YtnolgfdjcipmmaaDoor.M
