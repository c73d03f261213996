/- The statement of BigMuls: for every input the law returns true, and each argument reads behind the call as it read before. No condition. -/
import Derived.KernelRfl
import Derived.Test.YtepcjobghbanmaaProg
import Derived.Test.YtepcjobghbanmaaRows
import Derived.WalkKit
import Derived.ProofKit
import Derived.Handy
import Derived.Lay
import Derived.SizedLaws
import Derived.SevenTiedAt
import Derived.Test.YtepcjobghbanmaaLd
import Derived.Test.YtepcjobghbanmaaFbig
import Derived.Test.YtepcjobghbanmaaFref03
import Derived.Test.YtepcjobghbanmaaFlaw03
import Derived.Test.YtepcjobghbanmaaSwords
import Derived.Test.YtepcjobghbanmaaSbigS
import Derived.Test.YtepcjobghbanmaaSbigB
import Derived.Test.YtepcjobghbanmaaScellS
import Derived.Test.YtepcjobghbanmaaLe
set_option linter.unusedVariables false
set_option linter.unusedSimpArgs false
set_option autoImplicit false
namespace Go.Proofs.Ytepcjobghbanmaa.M
open Go
noncomputable section
/-- moneyer/moneyerlaw03.BigMuls -/
def law03_BigMuls (a : Vector UInt64 4) (n : UInt64) : Bool :=
  bif eqb (decide ((Vector.toList (uW ((uV a) * (UInt64.toNat n)))) = (Vector.toList (uW ((uV a) * (UInt64.toNat n)))))) true then (bif eqb (bif true then (decide ((mulC a n) = (mulC a n))) else false) true then (true)
      else (false))
    else (false)
theorem law03_BigMuls_q (a : Vector UInt64 4) (n : UInt64) : law03_BigMuls a n = (bif eqb (decide ((Vector.toList (uW ((uV a) * (UInt64.toNat n)))) = (Vector.toList (uW ((uV a) * (UInt64.toNat n)))))) true then (bif eqb (bif true then (decide ((mulC a n) = (mulC a n))) else false) true then (true)
      else (false))
    else (false)) := by kernel_rfl
theorem law03_BigMuls_spec (a : Vector UInt64 4) (n : UInt64) : law03_BigMuls a n = true := by
  unfold law03_BigMuls
  simp [eqb]

end
end Go.Proofs.Ytepcjobghbanmaa.M

namespace Go.Proofs.Ytepcjobghbanmaa.M
open Go
noncomputable section
set_option maxRecDepth 100000
set_option maxHeartbeats 0
noncomputable def law03_BigMuls_T : Tbl := [(38, [], big_Mul_c), (39, [], ref03_Mul_c), (19, [], law03_lives_c)]
noncomputable def law03_BigMuls_C : CfgW := mkC Try.prog noG law03_BigMuls_T 32 0 false
def law03_BigMuls_lv : Nat → List Nat := fun i => []
noncomputable abbrev law03_BigMuls_b : Code := Try.f7.body.getD .skip
noncomputable abbrev law03_BigMuls_r : List ResultVar := Try.f7.results.toList
def law03_BigMuls_hs : List Nat := []

def law03_BigMuls_enc (r : Bool) : CallOut := ⟨.pv (.sc .b r), [], true, []⟩
theorem law03_BigMuls_e (a : Vector UInt64 4) (n : UInt64) (Q : CallOut → Prop) : evalFnP law03_BigMuls_C law03_BigMuls_lv law03_BigMuls_r law03_BigMuls_hs law03_BigMuls_b [.pv (.arr .u64 4 a), .pv (.sc .u64 n)] [] Q =
    (condP (eqb (decide ((Vector.toList (uW ((uV a) * (UInt64.toNat n)))) = (Vector.toList (uW ((uV a) * (UInt64.toNat n)))))) true) (condP (eqb (bif true then (decide ((mulC a n) = (mulC a n))) else false) true) (Q (law03_BigMuls_enc true)) (Q (law03_BigMuls_enc false))) (Q (law03_BigMuls_enc false))) := by kernel_rfl
theorem law03_BigMuls_w (a : Vector UInt64 4) (n : UInt64) {Q : CallOut → Prop} (h : Q (law03_BigMuls_enc (law03_BigMuls a n))) : evalFnP law03_BigMuls_C law03_BigMuls_lv law03_BigMuls_r law03_BigMuls_hs law03_BigMuls_b [.pv (.arr .u64 4 a), .pv (.sc .u64 n)] [] Q :=
  Eq.mpr (law03_BigMuls_e a n Q) (have h := Eq.mp (congrArg (fun r => Q (law03_BigMuls_enc r)) (law03_BigMuls_q a n)) h; cond_ok2 (Q := fun r => Q (law03_BigMuls_enc r)) h (fun h => cond_ok2 (Q := fun r => Q (law03_BigMuls_enc r)) h (fun h => h) (fun h => h)) (fun h => h))
def law03_BigMuls_c : Ans
  | [.pv (.arr .u64 4 a), .pv (.sc .u64 n)], [] => some (none, law03_BigMuls_enc (true))
  | _, _ => none
theorem law03_BigMuls_tok : TblOK Try.prog noG law03_BigMuls_T := .cons ⟨by kernel_rfl, big_Mul_ok⟩ (.cons ⟨by kernel_rfl, ref03_Mul_ok⟩ (.cons ⟨by kernel_rfl, law03_lives_ok⟩ (.nil)))
theorem law03_BigMuls_ok : FnOK Try.prog noG 7 (unW law03_BigMuls_c) := by
  refine FnOK.ofC (T := law03_BigMuls_T) (nt := 32) (np := 0) (nf := false) (hs := law03_BigMuls_hs) (fn := Try.f7) (body := law03_BigMuls_b) law03_BigMuls_tok (by kernel_rfl) (by kernel_rfl) (by kernel_rfl) (by kernel_rfl) (c := law03_BigMuls_c) (lv := law03_BigMuls_lv) ?_
  intro xs mem p out h hp
  unfold law03_BigMuls_c at h
  split at h
  · cases h
    exact law03_BigMuls_w _ _ (congrArg law03_BigMuls_enc (law03_BigMuls_spec _ _))
  · cases h
end
end Go.Proofs.Ytepcjobghbanmaa.M

namespace Go.Proofs.Ytepcjobghbanmaa
open Go Go.ChangeShapes Go.WideShapes Go.ChangeAt Go.RowKit
open Go.Proofs.Ytepcjobghbanmaa
theorem law03_BigMuls_own : ownKnob Try.prog.godebug = none := by kernel_rfl
theorem law03_BigMuls_law : ∀ ys : List M.PV, M.FitL [.arr .u64 4, .sc .u64] ys → ∃ p out, M.law03_BigMuls_c (ys.map .pv) [] = some (p, out) ∧ p.h ∧ out.val = .pv (.sc .b true) := by
  rintro ys ⟨_, _, rfl, ⟨x0, rfl, hx0⟩, ⟨_, _, rfl, ⟨x1, rfl, hx1⟩, rfl⟩⟩
  exact ⟨_, _, rfl, trivial, rfl⟩
set_option maxRecDepth 100000 in
theorem law03_BigMuls_lifted (os : Os) (started : os.Started) (H : Type) (enc : TypeId × Value → H) :
    ReturnsInHanded {} Try.checked os 7 .any (Rows.bigMulsSpec.pre6 enc Try.prog Try.f7 [] false)
      (Rows.bigMulsSpec.post enc Try.prog Try.f7 false true false false) := by
  refine returnsInHanded_of_change_sized (C := Try.checked) law03_BigMuls_own started (by kernel_rfl) (by kernel_rfl)
    (ChangeSpec.witness6 (enc := enc) (C := Try.checked) (os := os) false ⟨#[], #[.agg #[.int .u64 0, .int .u64 0, .int .u64 0, .int .u64 0], .int .u64 0], []⟩ 8 (by kernel_rfl) (by kernel_rfl) (by kernel_rfl) (by kernel_rfl)) ?_
  intro W base args ds gs before hval hW _ hsz _
  exact M.law_contract (ss := [.arr .u64 4, .sc .u64]) (G := M.noG) (c := M.law03_BigMuls_c) (tb := 4) rfl (fun ds h => by
      match ds, h with
      | [d0, d1], _ => rfl) (by kernel_rfl) (by kernel_rfl) (by kernel_rfl) (by kernel_rfl) (by kernel_rfl) M.law03_BigMuls_ok law03_BigMuls_law hval hW hsz M.globOK_none
theorem bigMuls_row : Rows.BigMulsSaid :=
  OpenClaim.holds_of_wide 7 Try.f7 rfl rfl rfl rfl rfl rfl rfl ⟨rfl, rfl, rfl, rfl, rfl⟩ rfl rfl rfl rfl rfl (by kernel_rfl) (by kernel_rfl) (by kernel_rfl)
    (of_decide_eq_true (by kernel_rfl)) (by unfold Func.isWrapper; first | (rw [if_pos (by decide +kernel)]; kernel_rfl) | (rw [if_neg (by decide +kernel)]; exact ⟨rfl, rfl⟩))
    (fun os started H enc _ => law03_BigMuls_lifted os started H enc)
#print axioms bigMuls_row
end Go.Proofs.Ytepcjobghbanmaa
