/- The statement of TargetOf: for every input the law returns true, and each argument reads behind the call as it read before. No condition. -/
import Derived.KernelRfl
import Derived.Test.YtepcjobghbanmaaProg
import Derived.Test.YtepcjobghbanmaaRows
import Derived.WalkKit
import Derived.ProofKit
import Derived.Handy
import Derived.Lay
import Derived.SizedLaws
import Derived.SevenTiedAt
import Derived.Test.YtepcjobghbanmaaLd
import Derived.Test.YtepcjobghbanmaaFtarget
import Derived.Test.YtepcjobghbanmaaFref04
import Derived.Test.YtepcjobghbanmaaFlaw04
import Derived.Test.YtepcjobghbanmaaSwords
import Derived.Test.YtepcjobghbanmaaSbigS
import Derived.Test.YtepcjobghbanmaaSbigB
import Derived.Test.YtepcjobghbanmaaStarS
import Derived.Test.YtepcjobghbanmaaLe
set_option linter.unusedVariables false
set_option linter.unusedSimpArgs false
set_option autoImplicit false
namespace Go.Proofs.Ytepcjobghbanmaa.M
open Go
noncomputable section
/-- moneyer/moneyerlaw04.TargetOf -/
def law04_TargetOf (bits : UInt32) (t : Vector UInt64 4) : Bool :=
  bif eqb (decide ((Vector.toList (ofV bits)) = (Vector.toList (ofV bits)))) true then (bif eqb (bif true then (decide ((ofE bits) = (ofE bits))) else false) true then (bif eqb (bif true then (decide ((Vector.toList (workV bits)) = (Vector.toList (workV bits)))) else false) true then (bif eqb (bif true then (decide ((ofE bits) = (ofE bits))) else false) true then (bif eqb (bif true then (decide ((bitsW t) = (bitsW t))) else false) true then (true)
            else (false))
          else (false))
        else (false))
      else (false))
    else (false)
theorem law04_TargetOf_q (bits : UInt32) (t : Vector UInt64 4) : law04_TargetOf bits t = (bif eqb (decide ((Vector.toList (ofV bits)) = (Vector.toList (ofV bits)))) true then (bif eqb (bif true then (decide ((ofE bits) = (ofE bits))) else false) true then (bif eqb (bif true then (decide ((Vector.toList (workV bits)) = (Vector.toList (workV bits)))) else false) true then (bif eqb (bif true then (decide ((ofE bits) = (ofE bits))) else false) true then (bif eqb (bif true then (decide ((bitsW t) = (bitsW t))) else false) true then (true)
            else (false))
          else (false))
        else (false))
      else (false))
    else (false)) := by kernel_rfl
theorem law04_TargetOf_spec (bits : UInt32) (t : Vector UInt64 4) : law04_TargetOf bits t = true := by
  rw [law04_TargetOf]
  simp [eqb]

end
end Go.Proofs.Ytepcjobghbanmaa.M

namespace Go.Proofs.Ytepcjobghbanmaa.M
open Go
noncomputable section
set_option maxRecDepth 100000
set_option maxHeartbeats 0
noncomputable def law04_TargetOf_T : Tbl := [(40, [], target_Of_c), (41, [], ref04_Of_c), (42, [], target_Work_c), (43, [], ref04_Work_c), (44, [], target_Bits_c), (45, [], ref04_Bits_c), (46, [], law04_lives_c)]
noncomputable def law04_TargetOf_C : CfgW := mkC Try.prog noG law04_TargetOf_T 61 0 false
def law04_TargetOf_lv : Nat → List Nat := fun i => []
noncomputable abbrev law04_TargetOf_b : Code := Try.f10.body.getD .skip
noncomputable abbrev law04_TargetOf_r : List ResultVar := Try.f10.results.toList
def law04_TargetOf_hs : List Nat := []

def law04_TargetOf_enc (r : Bool) : CallOut := ⟨.pv (.sc .b r), [], true, []⟩
theorem law04_TargetOf_e (bits : UInt32) (t : Vector UInt64 4) (Q : CallOut → Prop) : evalFnP law04_TargetOf_C law04_TargetOf_lv law04_TargetOf_r law04_TargetOf_hs law04_TargetOf_b [.pv (.sc .u32 bits), .pv (.arr .u64 4 t)] [] Q =
    (condP (eqb (decide ((Vector.toList (ofV bits)) = (Vector.toList (ofV bits)))) true) (condP (eqb (bif true then (decide ((ofE bits) = (ofE bits))) else false) true) (condP (eqb (bif true then (decide ((Vector.toList (workV bits)) = (Vector.toList (workV bits)))) else false) true) (condP (eqb (bif true then (decide ((ofE bits) = (ofE bits))) else false) true) (condP (eqb (bif true then (decide ((bitsW t) = (bitsW t))) else false) true) (Q (law04_TargetOf_enc true)) (Q (law04_TargetOf_enc false))) (Q (law04_TargetOf_enc false))) (Q (law04_TargetOf_enc false))) (Q (law04_TargetOf_enc false))) (Q (law04_TargetOf_enc false))) := by kernel_rfl
theorem law04_TargetOf_w (bits : UInt32) (t : Vector UInt64 4) {Q : CallOut → Prop} (h : Q (law04_TargetOf_enc (law04_TargetOf bits t))) : evalFnP law04_TargetOf_C law04_TargetOf_lv law04_TargetOf_r law04_TargetOf_hs law04_TargetOf_b [.pv (.sc .u32 bits), .pv (.arr .u64 4 t)] [] Q :=
  Eq.mpr (law04_TargetOf_e bits t Q) (have h := Eq.mp (congrArg (fun r => Q (law04_TargetOf_enc r)) (law04_TargetOf_q bits t)) h; cond_ok2 (Q := fun r => Q (law04_TargetOf_enc r)) h (fun h => cond_ok2 (Q := fun r => Q (law04_TargetOf_enc r)) h (fun h => cond_ok2 (Q := fun r => Q (law04_TargetOf_enc r)) h (fun h => cond_ok2 (Q := fun r => Q (law04_TargetOf_enc r)) h (fun h => cond_ok2 (Q := fun r => Q (law04_TargetOf_enc r)) h (fun h => h) (fun h => h)) (fun h => h)) (fun h => h)) (fun h => h)) (fun h => h))
def law04_TargetOf_c : Ans
  | [.pv (.sc .u32 bits), .pv (.arr .u64 4 t)], [] => some (none, law04_TargetOf_enc (true))
  | _, _ => none
theorem law04_TargetOf_tok : TblOK Try.prog noG law04_TargetOf_T := .cons ⟨by kernel_rfl, target_Of_ok⟩ (.cons ⟨by kernel_rfl, ref04_Of_ok⟩ (.cons ⟨by kernel_rfl, target_Work_ok⟩ (.cons ⟨by kernel_rfl, ref04_Work_ok⟩ (.cons ⟨by kernel_rfl, target_Bits_ok⟩ (.cons ⟨by kernel_rfl, ref04_Bits_ok⟩ (.cons ⟨by kernel_rfl, law04_lives_ok⟩ (.nil)))))))
theorem law04_TargetOf_ok : FnOK Try.prog noG 10 (unW law04_TargetOf_c) := by
  refine FnOK.ofC (T := law04_TargetOf_T) (nt := 61) (np := 0) (nf := false) (hs := law04_TargetOf_hs) (fn := Try.f10) (body := law04_TargetOf_b) law04_TargetOf_tok (by kernel_rfl) (by kernel_rfl) (by kernel_rfl) (by kernel_rfl) (c := law04_TargetOf_c) (lv := law04_TargetOf_lv) ?_
  intro xs mem p out h hp
  unfold law04_TargetOf_c at h
  split at h
  · cases h
    exact law04_TargetOf_w _ _ (congrArg law04_TargetOf_enc (law04_TargetOf_spec _ _))
  · cases h
end
end Go.Proofs.Ytepcjobghbanmaa.M

namespace Go.Proofs.Ytepcjobghbanmaa
open Go Go.ChangeShapes Go.WideShapes Go.ChangeAt Go.RowKit
open Go.Proofs.Ytepcjobghbanmaa
theorem law04_TargetOf_own : ownKnob Try.prog.godebug = none := by kernel_rfl
theorem law04_TargetOf_law : ∀ ys : List M.PV, M.FitL [.sc .u32, .arr .u64 4] ys → ∃ p out, M.law04_TargetOf_c (ys.map .pv) [] = some (p, out) ∧ p.h ∧ out.val = .pv (.sc .b true) := by
  rintro ys ⟨_, _, rfl, ⟨x0, rfl, hx0⟩, ⟨_, _, rfl, ⟨x1, rfl, hx1⟩, rfl⟩⟩
  exact ⟨_, _, rfl, trivial, rfl⟩
set_option maxRecDepth 100000 in
theorem law04_TargetOf_lifted (os : Os) (started : os.Started) (H : Type) (enc : TypeId × Value → H) :
    ReturnsInHanded {} Try.checked os 10 .any (Rows.targetOfSpec.pre6 enc Try.prog Try.f10 [] false)
      (Rows.targetOfSpec.post enc Try.prog Try.f10 false true false false) := by
  refine returnsInHanded_of_change_sized (C := Try.checked) law04_TargetOf_own started (by kernel_rfl) (by kernel_rfl)
    (ChangeSpec.witness6 (enc := enc) (C := Try.checked) (os := os) false ⟨#[], #[.int .u32 0, .agg #[.int .u64 0, .int .u64 0, .int .u64 0, .int .u64 0]], []⟩ 8 (by kernel_rfl) (by kernel_rfl) (by kernel_rfl) (by kernel_rfl)) ?_
  intro W base args ds gs before hval hW _ hsz _
  exact M.law_contract (ss := [.sc .u32, .arr .u64 4]) (G := M.noG) (c := M.law04_TargetOf_c) (tb := 4) rfl (fun ds h => by
      match ds, h with
      | [d0, d1], _ => rfl) (by kernel_rfl) (by kernel_rfl) (by kernel_rfl) (by kernel_rfl) (by kernel_rfl) M.law04_TargetOf_ok law04_TargetOf_law hval hW hsz M.globOK_none
theorem targetOf_row : Rows.TargetOfSaid :=
  OpenClaim.holds_of_wide 10 Try.f10 rfl rfl rfl rfl rfl rfl rfl ⟨rfl, rfl, rfl, rfl, rfl⟩ rfl rfl rfl rfl rfl (by kernel_rfl) (by kernel_rfl) (by kernel_rfl)
    (of_decide_eq_true (by kernel_rfl)) (by unfold Func.isWrapper; first | (rw [if_pos (by decide +kernel)]; kernel_rfl) | (rw [if_neg (by decide +kernel)]; exact ⟨rfl, rfl⟩))
    (fun os started H enc _ => law04_TargetOf_lifted os started H enc)
#print axioms targetOf_row
end Go.Proofs.Ytepcjobghbanmaa
