/- Part of the proofs: what functions of the program do: plain functions, and the walks that show it. No condition. -/
import Derived.KernelRfl
import Derived.Test.YtepcjobghbanmaaProg
import Derived.Test.YtepcjobghbanmaaLd
import Derived.Test.YtepcjobghbanmaaFtarget
import Derived.Test.YtepcjobghbanmaaFref03
import Derived.Test.YtepcjobghbanmaaSwords
import Derived.Test.YtepcjobghbanmaaSbigS
import Derived.Test.YtepcjobghbanmaaSbigB
import Derived.Test.YtepcjobghbanmaaStarS
set_option linter.unusedVariables false
set_option linter.unusedSimpArgs false
set_option autoImplicit false
namespace Go.Proofs.Ytepcjobghbanmaa.M
open Go
noncomputable section
/-- moneyer/moneyerlaw04.lives -/
def law04_lives  : Bool :=
  bif eqb (decide ((ofE (545259519 : UInt32)) = (0 : Int))) true then (bif eqb (bif true then (decide ((List.getD (Vector.toList (ofV (545259519 : UInt32))) (3 : Nat) (0 : UInt64)) = (9223370937343148032 : UInt64))) else false) true then (bif eqb (bif true then (decide ((ofE (545259519 : UInt32)) = (0 : Int))) else false) true then (bif eqb (bif true then (decide ((Vector.toList (workV (545259519 : UInt32))) = (Vector.toList (uW (2 : Nat))))) else false) true then (bif eqb (bif true then (decide ((ofE (50331649 : UInt32)) = (5 : Int))) else false) true then (bif eqb (bif true then (decide ((ofE (545259519 : UInt32)) = (0 : Int))) else false) true then (bif eqb (bif true then (decide ((nextW (545259519 : UInt32) (480 : UInt32)) = (545259519 : UInt32))) else false) true then ((bif true then (decide ((subsS (16 : UInt32)) = (2500000000 : UInt64))) else false))
                else (false))
              else (false))
            else (false))
          else (false))
        else (false))
      else (false))
    else (false)
theorem law04_lives_q  : law04_lives  = (bif eqb (decide ((ofE (545259519 : UInt32)) = (0 : Int))) true then (bif eqb (bif true then (decide ((List.getD (Vector.toList (ofV (545259519 : UInt32))) (3 : Nat) (0 : UInt64)) = (9223370937343148032 : UInt64))) else false) true then (bif eqb (bif true then (decide ((ofE (545259519 : UInt32)) = (0 : Int))) else false) true then (bif eqb (bif true then (decide ((Vector.toList (workV (545259519 : UInt32))) = (Vector.toList (uW (2 : Nat))))) else false) true then (bif eqb (bif true then (decide ((ofE (50331649 : UInt32)) = (5 : Int))) else false) true then (bif eqb (bif true then (decide ((ofE (545259519 : UInt32)) = (0 : Int))) else false) true then (bif eqb (bif true then (decide ((nextW (545259519 : UInt32) (480 : UInt32)) = (545259519 : UInt32))) else false) true then ((bif true then (decide ((subsS (16 : UInt32)) = (2500000000 : UInt64))) else false))
                else (false))
              else (false))
            else (false))
          else (false))
        else (false))
      else (false))
    else (false)) := by kernel_rfl
theorem lim_ok' : okP (545259519 : UInt32).toNat := lim_ok
theorem lim_E : ofE 545259519 = 0 := (ofE_iff _).2 lim_ok
theorem lim_V : ofV 545259519 = uW limT := by rw [ofV_eq, if_pos lim_ok', show (545259519 : UInt32).toNat = 545259519 from rfl, lim_tgt]
theorem lim_W : workV 545259519 = uW 2 := by
  rw [workV_eq, if_pos lim_ok', show (545259519 : UInt32).toNat = 545259519 from rfl, lim_tgt]
  exact congrArg uW (by decide)
theorem one_E : ofE 50331649 = 5 := by
  rw [ofE_eq, if_neg]
  rintro ⟨_, _, _, h⟩
  rw [show (50331649 : UInt32).toNat = 50331649 from rfl, show tgtN 50331649 = 1 by decide] at h
  have e : lenN 1 = 1 := lenN_of (n := 0) (by decide) (by decide)
  have e1 : cN 1 = 1 := by unfold cN; rw [e]
  have e2 : cM 1 = 65536 := by unfold cM; rw [e1, if_pos (by decide)]
  unfold bitsN at h
  rw [if_neg (by decide), e1, e2] at h
  exact absurd h (by decide)
theorem lim_N : nextW 545259519 480 = 545259519 := by
  rw [← UInt32.toNat_inj, nextW_val lim_ok', show (545259519 : UInt32).toNat = 545259519 from rfl, lim_tgt, show clampN (480 : UInt32).toNat = 480 by decide]
  have e : nextT limT 480 = limT := by
    unfold nextT
    rw [Nat.mul_div_cancel _ (by decide), if_neg (by decide), if_neg (by decide)]
  rw [e, lim_bits]
theorem sub16 : subsS 16 = 2500000000 := by
  rw [subsS_eq]
  decide
theorem law04_lives_spec : law04_lives = true := by
  rw [law04_lives, lim_E, lim_W, one_E, lim_N, sub16, lim_V]
  have e3 : List.getD (Vector.toList (uW limT)) 3 0 = 9223370937343148032 := by
    rw [← UInt64.toNat_inj, gW_def, gW_div _ _ (by decide), uV_uW]
    decide
  rw [e3]
  simp [eqb]

end
end Go.Proofs.Ytepcjobghbanmaa.M

namespace Go.Proofs.Ytepcjobghbanmaa.M
open Go
noncomputable section
set_option maxRecDepth 100000
set_option maxHeartbeats 0
noncomputable def law04_lives_T : Tbl := [(40, [], target_Of_c), (42, [], target_Work_c), (47, [], target_Next_c), (29, [], ref03_Of_c), (51, [], target_Subsidy_c)]
noncomputable def law04_lives_C : CfgW := mkC Try.prog noG law04_lives_T 57 0 false
def law04_lives_lv : Nat → List Nat := fun i => []
noncomputable abbrev law04_lives_b : Code := Try.f46.body.getD .skip
noncomputable abbrev law04_lives_r : List ResultVar := Try.f46.results.toList
def law04_lives_hs : List Nat := []

def law04_lives_enc (r : Bool) : CallOut := ⟨.pv (.sc .b r), [], true, []⟩
theorem law04_lives_e  (Q : CallOut → Prop) : evalFnP law04_lives_C law04_lives_lv law04_lives_r law04_lives_hs law04_lives_b [] [] Q =
    (condP (eqb (decide ((ofE (545259519 : UInt32)) = (0 : Int))) true) ((((0 : Int) ≤ (3 : Int)) ∧ ((3 : Int) < (4 : Int))) ∧ (condP (eqb (bif true then (decide ((List.getD (Vector.toList (ofV (545259519 : UInt32))) (3 : Nat) (0 : UInt64)) = (9223370937343148032 : UInt64))) else false) true) (condP (eqb (bif true then (decide ((ofE (545259519 : UInt32)) = (0 : Int))) else false) true) (condP (eqb (bif true then (decide ((Vector.toList (workV (545259519 : UInt32))) = (Vector.toList (uW (2 : Nat))))) else false) true) (condP (eqb (bif true then (decide ((ofE (50331649 : UInt32)) = (5 : Int))) else false) true) (condP (eqb (bif true then (decide ((ofE (545259519 : UInt32)) = (0 : Int))) else false) true) (condP (eqb (bif true then (decide ((nextW (545259519 : UInt32) (480 : UInt32)) = (545259519 : UInt32))) else false) true) (Q (law04_lives_enc (bif true then (decide ((subsS (16 : UInt32)) = (2500000000 : UInt64))) else false))) (Q (law04_lives_enc false))) (Q (law04_lives_enc false))) (Q (law04_lives_enc false))) (Q (law04_lives_enc false))) (Q (law04_lives_enc false))) (Q (law04_lives_enc false)))) (Q (law04_lives_enc false))) := by kernel_rfl
theorem law04_lives_w  {Q : CallOut → Prop} (h : Q (law04_lives_enc (law04_lives ))) : evalFnP law04_lives_C law04_lives_lv law04_lives_r law04_lives_hs law04_lives_b [] [] Q :=
  Eq.mpr (law04_lives_e  Q) (have h := Eq.mp (congrArg (fun r => Q (law04_lives_enc r)) (law04_lives_q )) h; cond_ok2 (Q := fun r => Q (law04_lives_enc r)) h (fun h => ⟨by decide +kernel, cond_ok2 (Q := fun r => Q (law04_lives_enc r)) h (fun h => cond_ok2 (Q := fun r => Q (law04_lives_enc r)) h (fun h => cond_ok2 (Q := fun r => Q (law04_lives_enc r)) h (fun h => cond_ok2 (Q := fun r => Q (law04_lives_enc r)) h (fun h => cond_ok2 (Q := fun r => Q (law04_lives_enc r)) h (fun h => cond_ok2 (Q := fun r => Q (law04_lives_enc r)) h (fun h => h) (fun h => h)) (fun h => h)) (fun h => h)) (fun h => h)) (fun h => h)) (fun h => h)⟩) (fun h => h))
def law04_lives_c : Ans
  | [], [] => some (none, law04_lives_enc (true))
  | _, _ => none
theorem law04_lives_tok : TblOK Try.prog noG law04_lives_T := .cons ⟨by kernel_rfl, target_Of_ok⟩ (.cons ⟨by kernel_rfl, target_Work_ok⟩ (.cons ⟨by kernel_rfl, target_Next_ok⟩ (.cons ⟨by kernel_rfl, ref03_Of_ok⟩ (.cons ⟨by kernel_rfl, target_Subsidy_ok⟩ (.nil)))))
theorem law04_lives_ok : FnOK Try.prog noG 46 (unW law04_lives_c) := by
  refine FnOK.ofC (T := law04_lives_T) (nt := 57) (np := 0) (nf := false) (hs := law04_lives_hs) (fn := Try.f46) (body := law04_lives_b) law04_lives_tok (by kernel_rfl) (by kernel_rfl) (by kernel_rfl) (by kernel_rfl) (c := law04_lives_c) (lv := law04_lives_lv) ?_
  intro xs mem p out h hp
  unfold law04_lives_c at h
  split at h
  · cases h
    exact law04_lives_w  (congrArg law04_lives_enc (law04_lives_spec))
  · cases h
end
end Go.Proofs.Ytepcjobghbanmaa.M
