/- Part of the proofs: what functions of the program do: plain functions, and the walks that show it. No condition. -/
import Derived.KernelRfl
import Derived.Test.YtepcjobghbanmaaProg
import Derived.Test.YtepcjobghbanmaaLd
import Derived.Test.YtepcjobghbanmaaFbig
import Derived.Test.YtepcjobghbanmaaSwords
import Derived.Test.YtepcjobghbanmaaSbigS
set_option linter.unusedVariables false
set_option linter.unusedSimpArgs false
set_option autoImplicit false
namespace Go.Proofs.Ytepcjobghbanmaa.M
open Go
noncomputable section
/-- moneyer/moneyerlaw03.lives -/
def law03_lives  : Bool :=
  bif eqb (subB (Vector.replicate (4 : Nat) (0 : UInt64)) (uW (1 : Nat))) true then (bif eqb (bif true then (decide ((List.getD (Vector.toList (subV (Vector.replicate (4 : Nat) (0 : UInt64)) (uW (1 : Nat)))) (3 : Nat) (0 : UInt64)) = (18446744073709551615 : UInt64))) else false) true then (bif eqb (bif true then (decide ((Vector.toList (ovQ (uW (7 : Nat)) (uW (2 : Nat)))) = (Vector.toList (uW (3 : Nat))))) else false) true then (bif eqb (bif true then (decide ((Vector.toList (ovR (uW (7 : Nat)) (uW (2 : Nat)))) = (Vector.toList (uW (1 : Nat))))) else false) true then (bif eqb (bif true then (decide ((ovE (uW (2 : Nat))) = (0 : Int))) else false) true then (bif eqb (bif true then (decide ((divE (0 : UInt64)) = (2 : Int))) else false) true then ((bif true then (decide ((((lenN (uV (uW (8 : Nat)))) : Nat) : Int) = (4 : Int))) else false))
              else (false))
            else (false))
          else (false))
        else (false))
      else (false))
    else (false)
theorem law03_lives_q  : law03_lives  = (bif eqb (subB (Vector.replicate (4 : Nat) (0 : UInt64)) (uW (1 : Nat))) true then (bif eqb (bif true then (decide ((List.getD (Vector.toList (subV (Vector.replicate (4 : Nat) (0 : UInt64)) (uW (1 : Nat)))) (3 : Nat) (0 : UInt64)) = (18446744073709551615 : UInt64))) else false) true then (bif eqb (bif true then (decide ((Vector.toList (ovQ (uW (7 : Nat)) (uW (2 : Nat)))) = (Vector.toList (uW (3 : Nat))))) else false) true then (bif eqb (bif true then (decide ((Vector.toList (ovR (uW (7 : Nat)) (uW (2 : Nat)))) = (Vector.toList (uW (1 : Nat))))) else false) true then (bif eqb (bif true then (decide ((ovE (uW (2 : Nat))) = (0 : Int))) else false) true then (bif eqb (bif true then (decide ((divE (0 : UInt64)) = (2 : Int))) else false) true then ((bif true then (decide ((((lenN (uV (uW (8 : Nat)))) : Nat) : Int) = (4 : Int))) else false))
              else (false))
            else (false))
          else (false))
        else (false))
      else (false))
    else (false)) := by kernel_rfl
theorem law03_lives_spec : law03_lives = true := by
  rw [law03_lives_q]
  rw [subB_eq, subV_eq, ovQ_eq, ovR_eq, ovE_eq, divE_eq, lenN_eq]
  decide +kernel

end
end Go.Proofs.Ytepcjobghbanmaa.M

namespace Go.Proofs.Ytepcjobghbanmaa.M
open Go
noncomputable section
set_option maxRecDepth 100000
set_option maxHeartbeats 0
noncomputable def law03_lives_T : Tbl := [(28, [], big_Of_c), (22, [], big_Sub_c), (15, [], big_Over_c), (17, [], big_Div_c), (36, [], big_Len_c)]
noncomputable def law03_lives_C : CfgW := mkC Try.prog noG law03_lives_T 57 0 false
def law03_lives_lv : Nat → List Nat := fun i => []
noncomputable abbrev law03_lives_b : Code := Try.f19.body.getD .skip
noncomputable abbrev law03_lives_r : List ResultVar := Try.f19.results.toList
def law03_lives_hs : List Nat := []

def law03_lives_enc (r : Bool) : CallOut := ⟨.pv (.sc .b r), [], true, []⟩
theorem law03_lives_e  (Q : CallOut → Prop) : evalFnP law03_lives_C law03_lives_lv law03_lives_r law03_lives_hs law03_lives_b [] [] Q =
    (condP (eqb (subB (Vector.replicate (4 : Nat) (0 : UInt64)) (uW (1 : Nat))) true) ((((0 : Int) ≤ (3 : Int)) ∧ ((3 : Int) < (4 : Int))) ∧ (condP (eqb (bif true then (decide ((List.getD (Vector.toList (subV (Vector.replicate (4 : Nat) (0 : UInt64)) (uW (1 : Nat)))) (3 : Nat) (0 : UInt64)) = (18446744073709551615 : UInt64))) else false) true) (condP (eqb (bif true then (decide ((Vector.toList (ovQ (uW (7 : Nat)) (uW (2 : Nat)))) = (Vector.toList (uW (3 : Nat))))) else false) true) (condP (eqb (bif true then (decide ((Vector.toList (ovR (uW (7 : Nat)) (uW (2 : Nat)))) = (Vector.toList (uW (1 : Nat))))) else false) true) (condP (eqb (bif true then (decide ((ovE (uW (2 : Nat))) = (0 : Int))) else false) true) (condP (eqb (bif true then (decide ((divE (0 : UInt64)) = (2 : Int))) else false) true) (Q (law03_lives_enc (bif true then (decide ((((lenN (uV (uW (8 : Nat)))) : Nat) : Int) = (4 : Int))) else false))) (Q (law03_lives_enc false))) (Q (law03_lives_enc false))) (Q (law03_lives_enc false))) (Q (law03_lives_enc false))) (Q (law03_lives_enc false)))) (Q (law03_lives_enc false))) := by kernel_rfl
theorem law03_lives_w  {Q : CallOut → Prop} (h : Q (law03_lives_enc (law03_lives ))) : evalFnP law03_lives_C law03_lives_lv law03_lives_r law03_lives_hs law03_lives_b [] [] Q :=
  Eq.mpr (law03_lives_e  Q) (have h := Eq.mp (congrArg (fun r => Q (law03_lives_enc r)) (law03_lives_q )) h; cond_ok2 (Q := fun r => Q (law03_lives_enc r)) h (fun h => ⟨by decide +kernel, cond_ok2 (Q := fun r => Q (law03_lives_enc r)) h (fun h => cond_ok2 (Q := fun r => Q (law03_lives_enc r)) h (fun h => cond_ok2 (Q := fun r => Q (law03_lives_enc r)) h (fun h => cond_ok2 (Q := fun r => Q (law03_lives_enc r)) h (fun h => cond_ok2 (Q := fun r => Q (law03_lives_enc r)) h (fun h => h) (fun h => h)) (fun h => h)) (fun h => h)) (fun h => h)) (fun h => h)⟩) (fun h => h))
def law03_lives_c : Ans
  | [], [] => some (none, law03_lives_enc (true))
  | _, _ => none
theorem law03_lives_tok : TblOK Try.prog noG law03_lives_T := .cons ⟨by kernel_rfl, big_Of_ok⟩ (.cons ⟨by kernel_rfl, big_Sub_ok⟩ (.cons ⟨by kernel_rfl, big_Over_ok⟩ (.cons ⟨by kernel_rfl, big_Div_ok⟩ (.cons ⟨by kernel_rfl, big_Len_ok⟩ (.nil)))))
theorem law03_lives_ok : FnOK Try.prog noG 19 (unW law03_lives_c) := by
  refine FnOK.ofC (T := law03_lives_T) (nt := 57) (np := 0) (nf := false) (hs := law03_lives_hs) (fn := Try.f19) (body := law03_lives_b) law03_lives_tok (by kernel_rfl) (by kernel_rfl) (by kernel_rfl) (by kernel_rfl) (c := law03_lives_c) (lv := law03_lives_lv) ?_
  intro xs mem p out h hp
  unfold law03_lives_c at h
  split at h
  · cases h
    exact law03_lives_w  (congrArg law03_lives_enc (law03_lives_spec))
  · cases h
end
end Go.Proofs.Ytepcjobghbanmaa.M
