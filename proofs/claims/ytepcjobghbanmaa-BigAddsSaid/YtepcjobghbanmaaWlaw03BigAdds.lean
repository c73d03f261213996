/- The statement of BigAdds: for every input the law returns true, and each argument reads behind the call as it read before. No condition. -/
import Derived.KernelRfl
import Derived.Test.YtepcjobghbanmaaProg
import Derived.Test.YtepcjobghbanmaaRows
import Derived.WalkKit
import Derived.ProofKit
import Derived.Handy
import Derived.Lay
import Derived.SizedLaws
import Derived.SevenTiedAt
import Derived.Test.YtepcjobghbanmaaLd
import Derived.Test.YtepcjobghbanmaaFbig
import Derived.Test.YtepcjobghbanmaaFref03
import Derived.Test.YtepcjobghbanmaaFlaw03
import Derived.Test.YtepcjobghbanmaaSwords
import Derived.Test.YtepcjobghbanmaaSbigS
import Derived.Test.YtepcjobghbanmaaSbigB
import Derived.Test.YtepcjobghbanmaaScellS
import Derived.Test.YtepcjobghbanmaaLe
set_option linter.unusedVariables false
set_option linter.unusedSimpArgs false
set_option autoImplicit false
namespace Go.Proofs.Ytepcjobghbanmaa.M
open Go
noncomputable section
/-- moneyer/moneyerlaw03.BigAdds -/
def law03_BigAdds (a : Vector UInt64 4) (b : Vector UInt64 4) : Bool :=
  bif eqb (decide ((Vector.toList (addV a b)) = (Vector.toList (addV a b)))) true then (bif eqb (bif true then (decide ((addB a b) = (addB a b))) else false) true then (bif eqb (bif true then (decide ((Vector.toList (subV a b)) = (Vector.toList (subV a b)))) else false) true then (bif eqb (bif true then (decide ((subB a b) = (subB a b))) else false) true then (true)
          else (false))
        else (false))
      else (false))
    else (false)
theorem law03_BigAdds_q (a : Vector UInt64 4) (b : Vector UInt64 4) : law03_BigAdds a b = (bif eqb (decide ((Vector.toList (addV a b)) = (Vector.toList (addV a b)))) true then (bif eqb (bif true then (decide ((addB a b) = (addB a b))) else false) true then (bif eqb (bif true then (decide ((Vector.toList (subV a b)) = (Vector.toList (subV a b)))) else false) true then (bif eqb (bif true then (decide ((subB a b) = (subB a b))) else false) true then (true)
          else (false))
        else (false))
      else (false))
    else (false)) := by kernel_rfl
theorem law03_BigAdds_spec (a b : Vector UInt64 4) : law03_BigAdds a b = true := by
  unfold law03_BigAdds
  simp [eqb]

end
end Go.Proofs.Ytepcjobghbanmaa.M

namespace Go.Proofs.Ytepcjobghbanmaa.M
open Go
noncomputable section
set_option maxRecDepth 100000
set_option maxHeartbeats 0
noncomputable def law03_BigAdds_T : Tbl := [(20, [], big_Add_c), (21, [], ref03_Add_c), (22, [], big_Sub_c), (23, [], ref03_Sub_c), (19, [], law03_lives_c)]
noncomputable def law03_BigAdds_C : CfgW := mkC Try.prog noG law03_BigAdds_T 58 0 false
def law03_BigAdds_lv : Nat → List Nat := fun i => []
noncomputable abbrev law03_BigAdds_b : Code := Try.f4.body.getD .skip
noncomputable abbrev law03_BigAdds_r : List ResultVar := Try.f4.results.toList
def law03_BigAdds_hs : List Nat := []

def law03_BigAdds_enc (r : Bool) : CallOut := ⟨.pv (.sc .b r), [], true, []⟩
theorem law03_BigAdds_e (a : Vector UInt64 4) (b : Vector UInt64 4) (Q : CallOut → Prop) : evalFnP law03_BigAdds_C law03_BigAdds_lv law03_BigAdds_r law03_BigAdds_hs law03_BigAdds_b [.pv (.arr .u64 4 a), .pv (.arr .u64 4 b)] [] Q =
    (condP (eqb (decide ((Vector.toList (addV a b)) = (Vector.toList (addV a b)))) true) (condP (eqb (bif true then (decide ((addB a b) = (addB a b))) else false) true) (condP (eqb (bif true then (decide ((Vector.toList (subV a b)) = (Vector.toList (subV a b)))) else false) true) (condP (eqb (bif true then (decide ((subB a b) = (subB a b))) else false) true) (Q (law03_BigAdds_enc true)) (Q (law03_BigAdds_enc false))) (Q (law03_BigAdds_enc false))) (Q (law03_BigAdds_enc false))) (Q (law03_BigAdds_enc false))) := by kernel_rfl
theorem law03_BigAdds_w (a : Vector UInt64 4) (b : Vector UInt64 4) {Q : CallOut → Prop} (h : Q (law03_BigAdds_enc (law03_BigAdds a b))) : evalFnP law03_BigAdds_C law03_BigAdds_lv law03_BigAdds_r law03_BigAdds_hs law03_BigAdds_b [.pv (.arr .u64 4 a), .pv (.arr .u64 4 b)] [] Q :=
  Eq.mpr (law03_BigAdds_e a b Q) (have h := Eq.mp (congrArg (fun r => Q (law03_BigAdds_enc r)) (law03_BigAdds_q a b)) h; cond_ok2 (Q := fun r => Q (law03_BigAdds_enc r)) h (fun h => cond_ok2 (Q := fun r => Q (law03_BigAdds_enc r)) h (fun h => cond_ok2 (Q := fun r => Q (law03_BigAdds_enc r)) h (fun h => cond_ok2 (Q := fun r => Q (law03_BigAdds_enc r)) h (fun h => h) (fun h => h)) (fun h => h)) (fun h => h)) (fun h => h))
def law03_BigAdds_c : Ans
  | [.pv (.arr .u64 4 a), .pv (.arr .u64 4 b)], [] => some (none, law03_BigAdds_enc (true))
  | _, _ => none
theorem law03_BigAdds_tok : TblOK Try.prog noG law03_BigAdds_T := .cons ⟨by kernel_rfl, big_Add_ok⟩ (.cons ⟨by kernel_rfl, ref03_Add_ok⟩ (.cons ⟨by kernel_rfl, big_Sub_ok⟩ (.cons ⟨by kernel_rfl, ref03_Sub_ok⟩ (.cons ⟨by kernel_rfl, law03_lives_ok⟩ (.nil)))))
theorem law03_BigAdds_ok : FnOK Try.prog noG 4 (unW law03_BigAdds_c) := by
  refine FnOK.ofC (T := law03_BigAdds_T) (nt := 58) (np := 0) (nf := false) (hs := law03_BigAdds_hs) (fn := Try.f4) (body := law03_BigAdds_b) law03_BigAdds_tok (by kernel_rfl) (by kernel_rfl) (by kernel_rfl) (by kernel_rfl) (c := law03_BigAdds_c) (lv := law03_BigAdds_lv) ?_
  intro xs mem p out h hp
  unfold law03_BigAdds_c at h
  split at h
  · cases h
    exact law03_BigAdds_w _ _ (congrArg law03_BigAdds_enc (law03_BigAdds_spec _ _))
  · cases h
end
end Go.Proofs.Ytepcjobghbanmaa.M

namespace Go.Proofs.Ytepcjobghbanmaa
open Go Go.ChangeShapes Go.WideShapes Go.ChangeAt Go.RowKit
open Go.Proofs.Ytepcjobghbanmaa
theorem law03_BigAdds_own : ownKnob Try.prog.godebug = none := by kernel_rfl
theorem law03_BigAdds_law : ∀ ys : List M.PV, M.FitL [.arr .u64 4, .arr .u64 4] ys → ∃ p out, M.law03_BigAdds_c (ys.map .pv) [] = some (p, out) ∧ p.h ∧ out.val = .pv (.sc .b true) := by
  rintro ys ⟨_, _, rfl, ⟨x0, rfl, hx0⟩, ⟨_, _, rfl, ⟨x1, rfl, hx1⟩, rfl⟩⟩
  exact ⟨_, _, rfl, trivial, rfl⟩
set_option maxRecDepth 100000 in
theorem law03_BigAdds_lifted (os : Os) (started : os.Started) (H : Type) (enc : TypeId × Value → H) :
    ReturnsInHanded {} Try.checked os 4 .any (Rows.bigAddsSpec.pre6 enc Try.prog Try.f4 [] false)
      (Rows.bigAddsSpec.post enc Try.prog Try.f4 false true false false) := by
  refine returnsInHanded_of_change_sized (C := Try.checked) law03_BigAdds_own started (by kernel_rfl) (by kernel_rfl)
    (ChangeSpec.witness6 (enc := enc) (C := Try.checked) (os := os) false ⟨#[], #[.agg #[.int .u64 0, .int .u64 0, .int .u64 0, .int .u64 0], .agg #[.int .u64 0, .int .u64 0, .int .u64 0, .int .u64 0]], []⟩ 8 (by kernel_rfl) (by kernel_rfl) (by kernel_rfl) (by kernel_rfl)) ?_
  intro W base args ds gs before hval hW _ hsz _
  exact M.law_contract (ss := [.arr .u64 4, .arr .u64 4]) (G := M.noG) (c := M.law03_BigAdds_c) (tb := 4) rfl (fun ds h => by
      match ds, h with
      | [d0, d1], _ => rfl) (by kernel_rfl) (by kernel_rfl) (by kernel_rfl) (by kernel_rfl) (by kernel_rfl) M.law03_BigAdds_ok law03_BigAdds_law hval hW hsz M.globOK_none
theorem bigAdds_row : Rows.BigAddsSaid :=
  OpenClaim.holds_of_wide 4 Try.f4 rfl rfl rfl rfl rfl rfl rfl ⟨rfl, rfl, rfl, rfl, rfl⟩ rfl rfl rfl rfl rfl (by kernel_rfl) (by kernel_rfl) (by kernel_rfl)
    (of_decide_eq_true (by kernel_rfl)) (by unfold Func.isWrapper; first | (rw [if_pos (by decide +kernel)]; kernel_rfl) | (rw [if_neg (by decide +kernel)]; exact ⟨rfl, rfl⟩))
    (fun os started H enc _ => law03_BigAdds_lifted os started H enc)
#print axioms bigAdds_row
end Go.Proofs.Ytepcjobghbanmaa
