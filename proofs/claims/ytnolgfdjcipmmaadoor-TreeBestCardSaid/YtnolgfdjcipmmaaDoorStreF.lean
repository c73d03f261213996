/- Part of the proofs: what functions of the program do: plain functions, and the walks that show it. No condition. -/
import Derived.KernelRfl
import Derived.Test.YtnolgfdjcipmmaaDoorLe
import Derived.Test.YtnolgfdjcipmmaaDoorStreL
set_option linter.unusedVariables false
set_option linter.unusedSimpArgs false
set_option autoImplicit false
namespace Go.Proofs.YtnolgfdjcipmmaaDoor.M
open Go
theorem treesW_fit {xs:List PV} (h:∀ x ∈ xs,Fit (.st [.st [.arr .u8 32,.arr .u8 32,.sc .u32,.sc .u32,.sc .u32],.sc .i,.sc .b,.sc .b]) x):zAO xs=true:=by
 refine List.all_eq_true.2 fun x hx=>?_
 obtain ⟨_,rfl,_,_,rfl,⟨_,rfl,_,_,rfl,⟨_,rfl,_⟩,_,_,rfl,⟨_,rfl,_⟩,_,_,rfl,⟨_,rfl,_⟩,_,_,rfl,⟨_,rfl,_⟩,_,_,rfl,⟨_,rfl,_⟩,rfl⟩,_,_,rfl,⟨b,rfl,_⟩,_,_,rfl,⟨c,rfl,_⟩,_,_,rfl,⟨d,rfl,_⟩,rfl⟩:=h x hx
 rfl
end Go.Proofs.YtnolgfdjcipmmaaDoor.M
