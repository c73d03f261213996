/- Part of the proofs: what functions of the program do: plain functions, and the walks that show it. No condition. -/
import Derived.KernelRfl
import Derived.Test.YtkjillpcmffgoaaDoorProg
import Derived.Test.YtkjillpcmffgoaaDoorLe
import Derived.Test.YtkjillpcmffgoaaDoorSwords
import Derived.Test.YtkjillpcmffgoaaDoorSshaK
set_option linter.unusedVariables false
set_option linter.unusedSimpArgs false
set_option autoImplicit false
namespace Go.Proofs.YtkjillpcmffgoaaDoor.M
open Go
noncomputable section
/-- moneyer/moneyerref00.Copy -/
def ref00_Copy (b : List UInt8) : Option (List UInt8) :=
  if (((List.length (([] : List UInt8) ++ b)) * (1 : Nat)) ≤ (70368744177664 : Nat)) ∧ ((List.length (([] : List UInt8) ++ b)) ≤ (70368744177664 : Nat)) then
    some (([] : List UInt8) ++ b)
  else none
theorem ref00_Copy_q (b : List UInt8) : ref00_Copy b = (if (((List.length (([] : List UInt8) ++ b)) * (1 : Nat)) ≤ (70368744177664 : Nat)) ∧ ((List.length (([] : List UInt8) ++ b)) ≤ (70368744177664 : Nat)) then
    some (([] : List UInt8) ++ b)
  else none) := by kernel_rfl
theorem ref00_Copy_spec (b : List UInt8) (h : b.length ≤ 70368744177664) : ref00_Copy b = some b := by
  rw [ref00_Copy_q, List.nil_append, if_pos (by omega)]

end
end Go.Proofs.YtkjillpcmffgoaaDoor.M

namespace Go.Proofs.YtkjillpcmffgoaaDoor.M
open Go
noncomputable section
set_option maxRecDepth 100000
set_option maxHeartbeats 0
noncomputable def ref00_Copy_T : Tbl := []
noncomputable def ref00_Copy_C : CfgW := mkC Tryd.prog theG ref00_Copy_T 7 0 false
def ref00_Copy_lv : Nat → List Nat := fun i => []
noncomputable abbrev ref00_Copy_b : Code := Tryd.f58.body.getD .skip
noncomputable abbrev ref00_Copy_r : List ResultVar := Tryd.f58.results.toList
def ref00_Copy_hs : List Nat := []

def ref00_Copy_enc (r : List UInt8) : CallOut := ⟨.o 60000, [(60000, .row (.s .u8 r) false)], true, []⟩
theorem ref00_Copy_e (b : List UInt8) (Q : CallOut → Prop) : evalFnP ref00_Copy_C ref00_Copy_lv ref00_Copy_r ref00_Copy_hs ref00_Copy_b [.pv (.sl .u8 b)] [] Q =
    (((((List.length (([] : List UInt8) ++ b)) * (1 : Nat)) ≤ (70368744177664 : Nat)) ∧ ((List.length (([] : List UInt8) ++ b)) ≤ (70368744177664 : Nat))) ∧ (Q (ref00_Copy_enc (([] : List UInt8) ++ b)))) := by kernel_rfl
theorem ref00_Copy_w (b : List UInt8) {r} {Q : CallOut → Prop} (h : ref00_Copy b = some r) (hQ : Q (ref00_Copy_enc r)) : evalFnP ref00_Copy_C ref00_Copy_lv ref00_Copy_r ref00_Copy_hs ref00_Copy_b [.pv (.sl .u8 b)] [] Q :=
  Eq.mpr (ref00_Copy_e b Q) (have h := (ref00_Copy_q b).symm.trans h; ite_ok h fun hc0 h => ret_ok (Q := Q) (e := ref00_Copy_enc) h hQ)
def ref00_Copy_c : Ans
  | [.pv (.sl .u8 b)], [] => some (some (b.length ≤ 70368744177664), ref00_Copy_enc (b))
  | _, _ => none
theorem ref00_Copy_tok : TblOK Tryd.prog theG ref00_Copy_T := .nil
theorem ref00_Copy_ok : FnOK Tryd.prog theG 58 (unW ref00_Copy_c) := by
  refine FnOK.ofC (T := ref00_Copy_T) (nt := 7) (np := 0) (mv := []) (nf := false) (hs := ref00_Copy_hs) (fn := Tryd.f58) (body := ref00_Copy_b) ref00_Copy_tok (by kernel_rfl) (by kernel_rfl) (by kernel_rfl) (by kernel_rfl) (c := ref00_Copy_c) (lv := ref00_Copy_lv) ?_
  intro xs mem p out h hp
  unfold ref00_Copy_c at h
  split at h
  · cases h
    exact ref00_Copy_w _ (ref00_Copy_spec _ hp) rfl
  · cases h
end
end Go.Proofs.YtkjillpcmffgoaaDoor.M
