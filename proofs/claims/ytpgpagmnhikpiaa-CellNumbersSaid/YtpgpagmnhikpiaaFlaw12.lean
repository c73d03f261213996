/- Part of the proofs: what functions of the program do: plain functions, and the walks that show it. No condition. -/
import Derived.KernelRfl
import Derived.Test.YtpgpagmnhikpiaaProg
import Derived.Test.YtpgpagmnhikpiaaLd
import Derived.Test.YtpgpagmnhikpiaaFcell
import Derived.Test.YtpgpagmnhikpiaaFref00
import Derived.Test.YtpgpagmnhikpiaaSwords
import Derived.Test.YtpgpagmnhikpiaaScellS
set_option linter.unusedVariables false
set_option linter.unusedSimpArgs false
set_option autoImplicit false
namespace Go.Proofs.Ytpgpagmnhikpiaa.M
open Go
noncomputable section
/-- moneyer/moneyerlaw12.lives -/
def law12_lives  : Bool :=
  true
theorem law12_lives_q  : law12_lives  = (true) := by kernel_rfl

end
end Go.Proofs.Ytpgpagmnhikpiaa.M

namespace Go.Proofs.Ytpgpagmnhikpiaa.M
open Go
noncomputable section
set_option maxRecDepth 100000
noncomputable def law12_lives_T : Tbl := [(12, [], cell_Number_c), (9, [], cell_Two_c), (22, [false], cell_Push_c), (17, [], cell_True_c), (13, [], cell_Bytes_c), (14, [], ref00_Same_c)]
noncomputable def law12_lives_C : CfgW := mkC Try.prog noG law12_lives_T 62 0 false
def law12_lives_lv : Nat → List Nat := fun i => []
noncomputable abbrev law12_lives_b : Code := Try.f11.body.getD .skip
noncomputable abbrev law12_lives_r : List ResultVar := Try.f11.results.toList
def law12_lives_hs : List Nat := []

def law12_lives_enc (r : Bool) : CallOut := ⟨.pv (.sc .b r), [], true, []⟩
theorem law12_lives_e  (Q : CallOut → Prop) : evalFnP law12_lives_C law12_lives_lv law12_lives_r law12_lives_hs law12_lives_b [] [] Q =
    (((I64 (4611686018427387904 : Int)) ∧ (I64 (2 : Int))) ∧ (((cellsB ([] : List PV)) = true) ∧ ((((0 : Int) ≤ (0 : Int)) ∧ ((0 : Int) < (((List.length ([(PV.sl EK.u8 ([(5 : UInt8)] : List UInt8))] : List PV)) : Nat) : Int))) ∧ (((TY.chk (TY.sl EK.u8) (PV.sl EK.u8 ([(5 : UInt8)] : List UInt8))) = true) ∧ (((List.length (PV.slv EK.u8 (PV.sl EK.u8 ([(5 : UInt8)] : List UInt8)))) ≤ (1152921504606846976 : Nat)) ∧ ((I64 (-(1 : Int))) ∧ (((List.length (numB (-(1 : Int)))) ≤ (1152921504606846976 : Nat)) ∧ (Q (law12_lives_enc true))))))))) := by kernel_rfl
theorem law12_lives_w  {Q : CallOut → Prop} (h : Q (law12_lives_enc (law12_lives ))) : evalFnP law12_lives_C law12_lives_lv law12_lives_r law12_lives_hs law12_lives_b [] [] Q :=
  Eq.mpr (law12_lives_e  Q) (have h := Eq.mp (congrArg (fun r => Q (law12_lives_enc r)) (law12_lives_q )) h; ⟨by decide +kernel, ⟨by decide +kernel, ⟨by decide +kernel, ⟨by decide +kernel, ⟨by decide +kernel, ⟨by decide +kernel, ⟨by decide +kernel, h⟩⟩⟩⟩⟩⟩⟩)
def law12_lives_c : Ans
  | [], [] => some (none, law12_lives_enc (law12_lives ))
  | _, _ => none
theorem law12_lives_tok : TblOK Try.prog noG law12_lives_T := .cons ⟨by kernel_rfl, cell_Number_ok⟩ (.cons ⟨by kernel_rfl, cell_Two_ok⟩ (.cons ⟨by kernel_rfl, cell_Push_ok⟩ (.cons ⟨by kernel_rfl, cell_True_ok⟩ (.cons ⟨by kernel_rfl, cell_Bytes_ok⟩ (.cons ⟨by kernel_rfl, ref00_Same_ok⟩ (.nil))))))
theorem law12_lives_ok : FnOK Try.prog noG 11 (unW law12_lives_c) := by
  refine FnOK.ofC (T := law12_lives_T) (nt := 62) (np := 0) (nf := false) (hs := law12_lives_hs) (fn := Try.f11) (body := law12_lives_b) law12_lives_tok (by kernel_rfl) (by kernel_rfl) (by kernel_rfl) (by kernel_rfl) (c := law12_lives_c) (lv := law12_lives_lv) ?_
  intro xs mem p out h hp
  unfold law12_lives_c at h
  split at h
  · cases h
    exact law12_lives_w  rfl
  · cases h
end
end Go.Proofs.Ytpgpagmnhikpiaa.M
