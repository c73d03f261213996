/- The statement of BigDivs: for every input the law returns true, and each argument reads behind the call as it read before. No condition. -/
import Derived.KernelRfl
import Derived.Test.YtepcjobghbanmaaProg
import Derived.Test.YtepcjobghbanmaaRows
import Derived.WalkKit
import Derived.ProofKit
import Derived.Handy
import Derived.Lay
import Derived.SizedLaws
import Derived.SevenTiedAt
import Derived.Test.YtepcjobghbanmaaLd
import Derived.Test.YtepcjobghbanmaaFbig
import Derived.Test.YtepcjobghbanmaaFref03
import Derived.Test.YtepcjobghbanmaaFlaw03
import Derived.Test.YtepcjobghbanmaaSwords
import Derived.Test.YtepcjobghbanmaaSbigS
import Derived.Test.YtepcjobghbanmaaSbigB
import Derived.Test.YtepcjobghbanmaaScellS
import Derived.Test.YtepcjobghbanmaaLe
set_option linter.unusedVariables false
set_option linter.unusedSimpArgs false
set_option autoImplicit false
namespace Go.Proofs.Ytepcjobghbanmaa.M
open Go
noncomputable section
/-- moneyer/moneyerlaw03.BigDivs -/
def law03_BigDivs (a : Vector UInt64 4) (b : Vector UInt64 4) (n : UInt64) : Bool :=
  bif eqb (decide ((Vector.toList (ovQ a b)) = (Vector.toList (ovQ a b)))) true then (bif eqb (bif true then (decide ((Vector.toList (ovR a b)) = (Vector.toList (ovR a b)))) else false) true then (bif eqb (bif true then (decide ((ovE b) = (ovE b))) else false) true then (bif eqb (bif true then (decide ((Vector.toList (uW ((uV a) / (UInt64.toNat n)))) = (Vector.toList (uW ((uV a) / (UInt64.toNat n)))))) else false) true then (bif eqb (bif true then (decide ((divR a n) = (divR a n))) else false) true then (bif eqb (bif true then (decide ((divE n) = (divE n))) else false) true then (true)
              else (false))
            else (false))
          else (false))
        else (false))
      else (false))
    else (false)
theorem law03_BigDivs_q (a : Vector UInt64 4) (b : Vector UInt64 4) (n : UInt64) : law03_BigDivs a b n = (bif eqb (decide ((Vector.toList (ovQ a b)) = (Vector.toList (ovQ a b)))) true then (bif eqb (bif true then (decide ((Vector.toList (ovR a b)) = (Vector.toList (ovR a b)))) else false) true then (bif eqb (bif true then (decide ((ovE b) = (ovE b))) else false) true then (bif eqb (bif true then (decide ((Vector.toList (uW ((uV a) / (UInt64.toNat n)))) = (Vector.toList (uW ((uV a) / (UInt64.toNat n)))))) else false) true then (bif eqb (bif true then (decide ((divR a n) = (divR a n))) else false) true then (bif eqb (bif true then (decide ((divE n) = (divE n))) else false) true then (true)
              else (false))
            else (false))
          else (false))
        else (false))
      else (false))
    else (false)) := by kernel_rfl
theorem law03_BigDivs_spec (a b : Vector UInt64 4) (n : UInt64) : law03_BigDivs a b n = true := by
  unfold law03_BigDivs
  simp [eqb]

end
end Go.Proofs.Ytepcjobghbanmaa.M

namespace Go.Proofs.Ytepcjobghbanmaa.M
open Go
noncomputable section
set_option maxRecDepth 100000
set_option maxHeartbeats 0
noncomputable def law03_BigDivs_T : Tbl := [(15, [], big_Over_c), (16, [], ref03_Over_c), (17, [], big_Div_c), (18, [], ref03_Div_c), (19, [], law03_lives_c)]
noncomputable def law03_BigDivs_C : CfgW := mkC Try.prog noG law03_BigDivs_T 78 0 false
def law03_BigDivs_lv : Nat → List Nat := fun i => []
noncomputable abbrev law03_BigDivs_b : Code := Try.f3.body.getD .skip
noncomputable abbrev law03_BigDivs_r : List ResultVar := Try.f3.results.toList
def law03_BigDivs_hs : List Nat := []

def law03_BigDivs_enc (r : Bool) : CallOut := ⟨.pv (.sc .b r), [], true, []⟩
theorem law03_BigDivs_e (a : Vector UInt64 4) (b : Vector UInt64 4) (n : UInt64) (Q : CallOut → Prop) : evalFnP law03_BigDivs_C law03_BigDivs_lv law03_BigDivs_r law03_BigDivs_hs law03_BigDivs_b [.pv (.arr .u64 4 a), .pv (.arr .u64 4 b), .pv (.sc .u64 n)] [] Q =
    (condP (eqb (decide ((Vector.toList (ovQ a b)) = (Vector.toList (ovQ a b)))) true) (condP (eqb (bif true then (decide ((Vector.toList (ovR a b)) = (Vector.toList (ovR a b)))) else false) true) (condP (eqb (bif true then (decide ((ovE b) = (ovE b))) else false) true) (condP (eqb (bif true then (decide ((Vector.toList (uW ((uV a) / (UInt64.toNat n)))) = (Vector.toList (uW ((uV a) / (UInt64.toNat n)))))) else false) true) (condP (eqb (bif true then (decide ((divR a n) = (divR a n))) else false) true) (condP (eqb (bif true then (decide ((divE n) = (divE n))) else false) true) (Q (law03_BigDivs_enc true)) (Q (law03_BigDivs_enc false))) (Q (law03_BigDivs_enc false))) (Q (law03_BigDivs_enc false))) (Q (law03_BigDivs_enc false))) (Q (law03_BigDivs_enc false))) (Q (law03_BigDivs_enc false))) := by kernel_rfl
theorem law03_BigDivs_w (a : Vector UInt64 4) (b : Vector UInt64 4) (n : UInt64) {Q : CallOut → Prop} (h : Q (law03_BigDivs_enc (law03_BigDivs a b n))) : evalFnP law03_BigDivs_C law03_BigDivs_lv law03_BigDivs_r law03_BigDivs_hs law03_BigDivs_b [.pv (.arr .u64 4 a), .pv (.arr .u64 4 b), .pv (.sc .u64 n)] [] Q :=
  Eq.mpr (law03_BigDivs_e a b n Q) (have h := Eq.mp (congrArg (fun r => Q (law03_BigDivs_enc r)) (law03_BigDivs_q a b n)) h; cond_ok2 (Q := fun r => Q (law03_BigDivs_enc r)) h (fun h => cond_ok2 (Q := fun r => Q (law03_BigDivs_enc r)) h (fun h => cond_ok2 (Q := fun r => Q (law03_BigDivs_enc r)) h (fun h => cond_ok2 (Q := fun r => Q (law03_BigDivs_enc r)) h (fun h => cond_ok2 (Q := fun r => Q (law03_BigDivs_enc r)) h (fun h => cond_ok2 (Q := fun r => Q (law03_BigDivs_enc r)) h (fun h => h) (fun h => h)) (fun h => h)) (fun h => h)) (fun h => h)) (fun h => h)) (fun h => h))
def law03_BigDivs_c : Ans
  | [.pv (.arr .u64 4 a), .pv (.arr .u64 4 b), .pv (.sc .u64 n)], [] => some (none, law03_BigDivs_enc (true))
  | _, _ => none
theorem law03_BigDivs_tok : TblOK Try.prog noG law03_BigDivs_T := .cons ⟨by kernel_rfl, big_Over_ok⟩ (.cons ⟨by kernel_rfl, ref03_Over_ok⟩ (.cons ⟨by kernel_rfl, big_Div_ok⟩ (.cons ⟨by kernel_rfl, ref03_Div_ok⟩ (.cons ⟨by kernel_rfl, law03_lives_ok⟩ (.nil)))))
theorem law03_BigDivs_ok : FnOK Try.prog noG 3 (unW law03_BigDivs_c) := by
  refine FnOK.ofC (T := law03_BigDivs_T) (nt := 78) (np := 0) (nf := false) (hs := law03_BigDivs_hs) (fn := Try.f3) (body := law03_BigDivs_b) law03_BigDivs_tok (by kernel_rfl) (by kernel_rfl) (by kernel_rfl) (by kernel_rfl) (c := law03_BigDivs_c) (lv := law03_BigDivs_lv) ?_
  intro xs mem p out h hp
  unfold law03_BigDivs_c at h
  split at h
  · cases h
    exact law03_BigDivs_w _ _ _ (congrArg law03_BigDivs_enc (law03_BigDivs_spec _ _ _))
  · cases h
end
end Go.Proofs.Ytepcjobghbanmaa.M

namespace Go.Proofs.Ytepcjobghbanmaa
open Go Go.ChangeShapes Go.WideShapes Go.ChangeAt Go.RowKit
open Go.Proofs.Ytepcjobghbanmaa
theorem law03_BigDivs_own : ownKnob Try.prog.godebug = none := by kernel_rfl
theorem law03_BigDivs_law : ∀ ys : List M.PV, M.FitL [.arr .u64 4, .arr .u64 4, .sc .u64] ys → ∃ p out, M.law03_BigDivs_c (ys.map .pv) [] = some (p, out) ∧ p.h ∧ out.val = .pv (.sc .b true) := by
  rintro ys ⟨_, _, rfl, ⟨x0, rfl, hx0⟩, ⟨_, _, rfl, ⟨x1, rfl, hx1⟩, ⟨_, _, rfl, ⟨x2, rfl, hx2⟩, rfl⟩⟩⟩
  exact ⟨_, _, rfl, trivial, rfl⟩
set_option maxRecDepth 100000 in
theorem law03_BigDivs_lifted (os : Os) (started : os.Started) (H : Type) (enc : TypeId × Value → H) :
    ReturnsInHanded {} Try.checked os 3 .any (Rows.bigDivsSpec.pre6 enc Try.prog Try.f3 [] false)
      (Rows.bigDivsSpec.post enc Try.prog Try.f3 false true false false) := by
  refine returnsInHanded_of_change_sized (C := Try.checked) law03_BigDivs_own started (by kernel_rfl) (by kernel_rfl)
    (ChangeSpec.witness6 (enc := enc) (C := Try.checked) (os := os) false ⟨#[], #[.agg #[.int .u64 0, .int .u64 0, .int .u64 0, .int .u64 0], .agg #[.int .u64 0, .int .u64 0, .int .u64 0, .int .u64 0], .int .u64 0], []⟩ 8 (by kernel_rfl) (by kernel_rfl) (by kernel_rfl) (by kernel_rfl)) ?_
  intro W base args ds gs before hval hW _ hsz _
  exact M.law_contract (ss := [.arr .u64 4, .arr .u64 4, .sc .u64]) (G := M.noG) (c := M.law03_BigDivs_c) (tb := 4) rfl (fun ds h => by
      match ds, h with
      | [d0, d1, d2], _ => rfl) (by kernel_rfl) (by kernel_rfl) (by kernel_rfl) (by kernel_rfl) (by kernel_rfl) M.law03_BigDivs_ok law03_BigDivs_law hval hW hsz M.globOK_none
theorem bigDivs_row : Rows.BigDivsSaid :=
  OpenClaim.holds_of_wide 3 Try.f3 rfl rfl rfl rfl rfl rfl rfl ⟨rfl, rfl, rfl, rfl, rfl⟩ rfl rfl rfl rfl rfl (by kernel_rfl) (by kernel_rfl) (by kernel_rfl)
    (of_decide_eq_true (by kernel_rfl)) (by unfold Func.isWrapper; first | (rw [if_pos (by decide +kernel)]; kernel_rfl) | (rw [if_neg (by decide +kernel)]; exact ⟨rfl, rfl⟩))
    (fun os started H enc _ => law03_BigDivs_lifted os started H enc)
#print axioms bigDivs_row
end Go.Proofs.Ytepcjobghbanmaa
