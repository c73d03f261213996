/- The statement of TargetNext: for every input the law returns true, and each argument reads behind the call as it read before. No condition. -/
import Derived.KernelRfl
import Derived.Test.YtepcjobghbanmaaProg
import Derived.Test.YtepcjobghbanmaaRows
import Derived.WalkKit
import Derived.ProofKit
import Derived.Handy
import Derived.Lay
import Derived.SizedLaws
import Derived.SevenTiedAt
import Derived.Test.YtepcjobghbanmaaLd
import Derived.Test.YtepcjobghbanmaaFtarget
import Derived.Test.YtepcjobghbanmaaFref04
import Derived.Test.YtepcjobghbanmaaFlaw04
import Derived.Test.YtepcjobghbanmaaSwords
import Derived.Test.YtepcjobghbanmaaSbigS
import Derived.Test.YtepcjobghbanmaaSbigB
import Derived.Test.YtepcjobghbanmaaStarS
import Derived.Test.YtepcjobghbanmaaLe
set_option linter.unusedVariables false
set_option linter.unusedSimpArgs false
set_option autoImplicit false
namespace Go.Proofs.Ytepcjobghbanmaa.M
open Go
noncomputable section
/-- moneyer/moneyerlaw04.TargetNext -/
def law04_TargetNext (bits : UInt32) (span : UInt32) (height : UInt32) (h_3 : Vector UInt8 32) : Bool :=
  bif eqb (decide ((nextW bits span) = (nextW bits span))) true then (bif eqb (bif true then (decide ((ofE bits) = (ofE bits))) else false) true then (bif eqb (bif true then (decide ((meetsS h_3 bits) = (meetsS h_3 bits))) else false) true then (bif eqb (bif true then (decide ((subsS height) = (subsS height))) else false) true then (true)
          else (false))
        else (false))
      else (false))
    else (false)
theorem law04_TargetNext_q (bits : UInt32) (span : UInt32) (height : UInt32) (h_3 : Vector UInt8 32) : law04_TargetNext bits span height h_3 = (bif eqb (decide ((nextW bits span) = (nextW bits span))) true then (bif eqb (bif true then (decide ((ofE bits) = (ofE bits))) else false) true then (bif eqb (bif true then (decide ((meetsS h_3 bits) = (meetsS h_3 bits))) else false) true then (bif eqb (bif true then (decide ((subsS height) = (subsS height))) else false) true then (true)
          else (false))
        else (false))
      else (false))
    else (false)) := by kernel_rfl
theorem law04_TargetNext_spec (bits span height : UInt32) (h : Vector UInt8 32) : law04_TargetNext bits span height h = true := by
  rw [law04_TargetNext]
  simp [eqb]

end
end Go.Proofs.Ytepcjobghbanmaa.M

namespace Go.Proofs.Ytepcjobghbanmaa.M
open Go
noncomputable section
set_option maxRecDepth 100000
set_option maxHeartbeats 0
noncomputable def law04_TargetNext_T : Tbl := [(47, [], target_Next_c), (48, [], ref04_Next_c), (49, [], target_Meets_c), (50, [], ref04_Meets_c), (51, [], target_Subsidy_c), (52, [], ref04_Subsidy_c), (46, [], law04_lives_c)]
noncomputable def law04_TargetNext_C : CfgW := mkC Try.prog noG law04_TargetNext_T 52 0 false
def law04_TargetNext_lv : Nat → List Nat := fun i => []
noncomputable abbrev law04_TargetNext_b : Code := Try.f14.body.getD .skip
noncomputable abbrev law04_TargetNext_r : List ResultVar := Try.f14.results.toList
def law04_TargetNext_hs : List Nat := []

def law04_TargetNext_enc (r : Bool) : CallOut := ⟨.pv (.sc .b r), [], true, []⟩
theorem law04_TargetNext_e (bits : UInt32) (span : UInt32) (height : UInt32) (h_3 : Vector UInt8 32) (Q : CallOut → Prop) : evalFnP law04_TargetNext_C law04_TargetNext_lv law04_TargetNext_r law04_TargetNext_hs law04_TargetNext_b [.pv (.sc .u32 bits), .pv (.sc .u32 span), .pv (.sc .u32 height), .pv (.arr .u8 32 h_3)] [] Q =
    (condP (eqb (decide ((nextW bits span) = (nextW bits span))) true) (condP (eqb (bif true then (decide ((ofE bits) = (ofE bits))) else false) true) (condP (eqb (bif true then (decide ((meetsS h_3 bits) = (meetsS h_3 bits))) else false) true) (condP (eqb (bif true then (decide ((subsS height) = (subsS height))) else false) true) (Q (law04_TargetNext_enc true)) (Q (law04_TargetNext_enc false))) (Q (law04_TargetNext_enc false))) (Q (law04_TargetNext_enc false))) (Q (law04_TargetNext_enc false))) := by kernel_rfl
theorem law04_TargetNext_w (bits : UInt32) (span : UInt32) (height : UInt32) (h_3 : Vector UInt8 32) {Q : CallOut → Prop} (h : Q (law04_TargetNext_enc (law04_TargetNext bits span height h_3))) : evalFnP law04_TargetNext_C law04_TargetNext_lv law04_TargetNext_r law04_TargetNext_hs law04_TargetNext_b [.pv (.sc .u32 bits), .pv (.sc .u32 span), .pv (.sc .u32 height), .pv (.arr .u8 32 h_3)] [] Q :=
  Eq.mpr (law04_TargetNext_e bits span height h_3 Q) (have h := Eq.mp (congrArg (fun r => Q (law04_TargetNext_enc r)) (law04_TargetNext_q bits span height h_3)) h; cond_ok2 (Q := fun r => Q (law04_TargetNext_enc r)) h (fun h => cond_ok2 (Q := fun r => Q (law04_TargetNext_enc r)) h (fun h => cond_ok2 (Q := fun r => Q (law04_TargetNext_enc r)) h (fun h => cond_ok2 (Q := fun r => Q (law04_TargetNext_enc r)) h (fun h => h) (fun h => h)) (fun h => h)) (fun h => h)) (fun h => h))
def law04_TargetNext_c : Ans
  | [.pv (.sc .u32 bits), .pv (.sc .u32 span), .pv (.sc .u32 height), .pv (.arr .u8 32 h_3)], [] => some (none, law04_TargetNext_enc (true))
  | _, _ => none
theorem law04_TargetNext_tok : TblOK Try.prog noG law04_TargetNext_T := .cons ⟨by kernel_rfl, target_Next_ok⟩ (.cons ⟨by kernel_rfl, ref04_Next_ok⟩ (.cons ⟨by kernel_rfl, target_Meets_ok⟩ (.cons ⟨by kernel_rfl, ref04_Meets_ok⟩ (.cons ⟨by kernel_rfl, target_Subsidy_ok⟩ (.cons ⟨by kernel_rfl, ref04_Subsidy_ok⟩ (.cons ⟨by kernel_rfl, law04_lives_ok⟩ (.nil)))))))
theorem law04_TargetNext_ok : FnOK Try.prog noG 14 (unW law04_TargetNext_c) := by
  refine FnOK.ofC (T := law04_TargetNext_T) (nt := 52) (np := 0) (nf := false) (hs := law04_TargetNext_hs) (fn := Try.f14) (body := law04_TargetNext_b) law04_TargetNext_tok (by kernel_rfl) (by kernel_rfl) (by kernel_rfl) (by kernel_rfl) (c := law04_TargetNext_c) (lv := law04_TargetNext_lv) ?_
  intro xs mem p out h hp
  unfold law04_TargetNext_c at h
  split at h
  · cases h
    exact law04_TargetNext_w _ _ _ _ (congrArg law04_TargetNext_enc (law04_TargetNext_spec _ _ _ _))
  · cases h
end
end Go.Proofs.Ytepcjobghbanmaa.M

namespace Go.Proofs.Ytepcjobghbanmaa
open Go Go.ChangeShapes Go.WideShapes Go.ChangeAt Go.RowKit
open Go.Proofs.Ytepcjobghbanmaa
theorem law04_TargetNext_own : ownKnob Try.prog.godebug = none := by kernel_rfl
theorem law04_TargetNext_law : ∀ ys : List M.PV, M.FitL [.sc .u32, .sc .u32, .sc .u32, .arr .u8 32] ys → ∃ p out, M.law04_TargetNext_c (ys.map .pv) [] = some (p, out) ∧ p.h ∧ out.val = .pv (.sc .b true) := by
  rintro ys ⟨_, _, rfl, ⟨x0, rfl, hx0⟩, ⟨_, _, rfl, ⟨x1, rfl, hx1⟩, ⟨_, _, rfl, ⟨x2, rfl, hx2⟩, ⟨_, _, rfl, ⟨x3, rfl, hx3⟩, rfl⟩⟩⟩⟩
  exact ⟨_, _, rfl, trivial, rfl⟩
set_option maxRecDepth 100000 in
theorem law04_TargetNext_lifted (os : Os) (started : os.Started) (H : Type) (enc : TypeId × Value → H) :
    ReturnsInHanded {} Try.checked os 14 .any (Rows.targetNextSpec.pre6 enc Try.prog Try.f14 [] false)
      (Rows.targetNextSpec.post enc Try.prog Try.f14 false true false false) := by
  refine returnsInHanded_of_change_sized (C := Try.checked) law04_TargetNext_own started (by kernel_rfl) (by kernel_rfl)
    (ChangeSpec.witness6 (enc := enc) (C := Try.checked) (os := os) false ⟨#[], #[.int .u32 0, .int .u32 0, .int .u32 0, .agg (Array.replicate 32 (.int .u8 0))], []⟩ 8 (by kernel_rfl) (by kernel_rfl) (by kernel_rfl) (by kernel_rfl)) ?_
  intro W base args ds gs before hval hW _ hsz _
  exact M.law_contract (ss := [.sc .u32, .sc .u32, .sc .u32, .arr .u8 32]) (G := M.noG) (c := M.law04_TargetNext_c) (tb := 4) rfl (fun ds h => by
      match ds, h with
      | [d0, d1, d2, d3], _ => rfl) (by kernel_rfl) (by kernel_rfl) (by kernel_rfl) (by kernel_rfl) (by kernel_rfl) M.law04_TargetNext_ok law04_TargetNext_law hval hW hsz M.globOK_none
theorem targetNext_row : Rows.TargetNextSaid :=
  OpenClaim.holds_of_wide 14 Try.f14 rfl rfl rfl rfl rfl rfl rfl ⟨rfl, rfl, rfl, rfl, rfl⟩ rfl rfl rfl rfl rfl (by kernel_rfl) (by kernel_rfl) (by kernel_rfl)
    (of_decide_eq_true (by kernel_rfl)) (by unfold Func.isWrapper; first | (rw [if_pos (by decide +kernel)]; kernel_rfl) | (rw [if_neg (by decide +kernel)]; exact ⟨rfl, rfl⟩))
    (fun os started H enc _ => law04_TargetNext_lifted os started H enc)
#print axioms targetNext_row
end Go.Proofs.Ytepcjobghbanmaa
