/- Part of the proofs: what functions of the program do: plain functions, and the walks that show it. No condition. -/
import Derived.KernelRfl
import Derived.Test.YtkjillpcmffgoaaDoorProg
import Derived.Test.YtkjillpcmffgoaaDoorLe
import Derived.Test.YtkjillpcmffgoaaDoorSwords
import Derived.Test.YtkjillpcmffgoaaDoorSshaK
set_option linter.unusedVariables false
set_option linter.unusedSimpArgs false
set_option autoImplicit false
namespace Go.Proofs.YtkjillpcmffgoaaDoor.M
open Go
noncomputable section
/-- math/bits.RotateLeft32 -/
def bits_RotateLeft32 (x_0 : UInt32) (k_1 : Int) : UInt32 :=
  ((shl_u32 x_0 (UInt64.toNat ((UInt64.ofInt k_1) &&& (31 : UInt64)))) ||| (shr_u32 x_0 (UInt64.toNat ((32 : UInt64) - ((UInt64.ofInt k_1) &&& (31 : UInt64))))))
theorem bits_RotateLeft32_q (x_0 : UInt32) (k_1 : Int) : bits_RotateLeft32 x_0 k_1 = (((shl_u32 x_0 (UInt64.toNat ((UInt64.ofInt k_1) &&& (31 : UInt64)))) ||| (shr_u32 x_0 (UInt64.toNat ((32 : UInt64) - ((UInt64.ofInt k_1) &&& (31 : UInt64))))))) := by kernel_rfl

end
end Go.Proofs.YtkjillpcmffgoaaDoor.M

namespace Go.Proofs.YtkjillpcmffgoaaDoor.M
open Go
noncomputable section
set_option maxRecDepth 100000
set_option maxHeartbeats 0
noncomputable def bits_RotateLeft32_T : Tbl := []
noncomputable def bits_RotateLeft32_C : CfgW := mkC Tryd.prog theG bits_RotateLeft32_T 17 0 false
def bits_RotateLeft32_lv : Nat → List Nat := fun i => []
noncomputable abbrev bits_RotateLeft32_b : Code := Tryd.f60.body.getD .skip
noncomputable abbrev bits_RotateLeft32_r : List ResultVar := Tryd.f60.results.toList
def bits_RotateLeft32_hs : List Nat := []

def bits_RotateLeft32_enc (r : UInt32) : CallOut := ⟨.pv (.sc .u32 r), [], true, []⟩
theorem bits_RotateLeft32_e (x_0 : UInt32) (k_1 : Int) (Q : CallOut → Prop) : evalFnP bits_RotateLeft32_C bits_RotateLeft32_lv bits_RotateLeft32_r bits_RotateLeft32_hs bits_RotateLeft32_b [.pv (.sc .u32 x_0), .pv (.sc .i k_1)] [] Q =
    (Q (bits_RotateLeft32_enc ((shl_u32 x_0 (UInt64.toNat ((UInt64.ofInt k_1) &&& (31 : UInt64)))) ||| (shr_u32 x_0 (UInt64.toNat ((32 : UInt64) - ((UInt64.ofInt k_1) &&& (31 : UInt64)))))))) := by kernel_rfl
theorem bits_RotateLeft32_w (x_0 : UInt32) (k_1 : Int) {Q : CallOut → Prop} (h : Q (bits_RotateLeft32_enc (bits_RotateLeft32 x_0 k_1))) : evalFnP bits_RotateLeft32_C bits_RotateLeft32_lv bits_RotateLeft32_r bits_RotateLeft32_hs bits_RotateLeft32_b [.pv (.sc .u32 x_0), .pv (.sc .i k_1)] [] Q :=
  Eq.mpr (bits_RotateLeft32_e x_0 k_1 Q) (have h := Eq.mp (congrArg (fun r => Q (bits_RotateLeft32_enc r)) (bits_RotateLeft32_q x_0 k_1)) h; h)
def bits_RotateLeft32_c : Ans
  | [.pv (.sc .u32 x_0), .pv (.sc .i k_1)], [] => some (none, bits_RotateLeft32_enc (bits_RotateLeft32 x_0 k_1))
  | _, _ => none
theorem bits_RotateLeft32_tok : TblOK Tryd.prog theG bits_RotateLeft32_T := .nil
theorem bits_RotateLeft32_ok : FnOK Tryd.prog theG 60 (unW bits_RotateLeft32_c) := by
  refine FnOK.ofC (T := bits_RotateLeft32_T) (nt := 17) (np := 0) (mv := []) (nf := false) (hs := bits_RotateLeft32_hs) (fn := Tryd.f60) (body := bits_RotateLeft32_b) bits_RotateLeft32_tok (by kernel_rfl) (by kernel_rfl) (by kernel_rfl) (by kernel_rfl) (c := bits_RotateLeft32_c) (lv := bits_RotateLeft32_lv) ?_
  intro xs mem p out h hp
  unfold bits_RotateLeft32_c at h
  split at h
  · cases h
    exact bits_RotateLeft32_w _ _ rfl
  · cases h
end
end Go.Proofs.YtkjillpcmffgoaaDoor.M
