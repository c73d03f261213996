/- Part of the proofs: what functions of the program do: plain functions, and the walks that show it. No condition. -/
import Derived.KernelRfl
import Derived.Test.YtkjillpcmffgoaaDoorProg
import Derived.Test.YtkjillpcmffgoaaDoorLe
import Derived.Test.YtkjillpcmffgoaaDoorFlamp
import Derived.Test.YtkjillpcmffgoaaDoorSwords
import Derived.Test.YtkjillpcmffgoaaDoorSshaS
import Derived.Test.YtkjillpcmffgoaaDoorSmerS
import Derived.Test.YtkjillpcmffgoaaDoorSlampS
import Derived.Test.YtkjillpcmffgoaaDoorSshaE
import Derived.Test.YtkjillpcmffgoaaDoorSshaK
set_option linter.unusedVariables false
set_option linter.unusedSimpArgs false
set_option autoImplicit false
namespace Go.Proofs.YtkjillpcmffgoaaDoor.M
open Go
noncomputable section
/-- moneyer/moneyerlaw13.lives -/
def law13_lives  : Bool :=
  bif eqb (decide ((((List.length (sigL (Vector.replicate (32 : Nat) (0 : UInt8)) (Vector.setIfInBounds (Vector.replicate (32 : Nat) (0 : UInt8)) (0 : Nat) (2 : UInt8)))) : Nat) : Int) = (2048 : Int))) true then (bif eqb (bif true then (decide ((checkV (keyV (Vector.replicate (32 : Nat) (0 : UInt8))) (Vector.setIfInBounds (Vector.replicate (32 : Nat) (0 : UInt8)) (0 : Nat) (2 : UInt8)) (sigL (Vector.replicate (32 : Nat) (0 : UInt8)) (Vector.setIfInBounds (Vector.replicate (32 : Nat) (0 : UInt8)) (0 : Nat) (2 : UInt8)))) = (0 : Int))) else false) true then (bif eqb (bif true then (decide ((checkV (keyV (Vector.replicate (32 : Nat) (0 : UInt8))) (Vector.setIfInBounds (Vector.replicate (32 : Nat) (0 : UInt8)) (0 : Nat) (2 : UInt8)) ([] : List UInt8)) = (5 : Int))) else false) true then (bif eqb (bif true then (decide ((bitV (Vector.setIfInBounds (Vector.replicate (32 : Nat) (0 : UInt8)) (0 : Nat) (2 : UInt8)) (1 : UInt8)) = (1 : UInt8))) else false) true then ((bif true then (decide ((checkV (keyV (Vector.replicate (32 : Nat) (0 : UInt8))) (Vector.replicate (32 : Nat) (0 : UInt8)) (sigL (Vector.replicate (32 : Nat) (0 : UInt8)) (Vector.setIfInBounds (Vector.replicate (32 : Nat) (0 : UInt8)) (0 : Nat) (2 : UInt8)))) = (5 : Int))) else false))
          else (false))
        else (false))
      else (false))
    else (false)
theorem law13_lives_q  : law13_lives  = (bif eqb (decide ((((List.length (sigL (Vector.replicate (32 : Nat) (0 : UInt8)) (Vector.setIfInBounds (Vector.replicate (32 : Nat) (0 : UInt8)) (0 : Nat) (2 : UInt8)))) : Nat) : Int) = (2048 : Int))) true then (bif eqb (bif true then (decide ((checkV (keyV (Vector.replicate (32 : Nat) (0 : UInt8))) (Vector.setIfInBounds (Vector.replicate (32 : Nat) (0 : UInt8)) (0 : Nat) (2 : UInt8)) (sigL (Vector.replicate (32 : Nat) (0 : UInt8)) (Vector.setIfInBounds (Vector.replicate (32 : Nat) (0 : UInt8)) (0 : Nat) (2 : UInt8)))) = (0 : Int))) else false) true then (bif eqb (bif true then (decide ((checkV (keyV (Vector.replicate (32 : Nat) (0 : UInt8))) (Vector.setIfInBounds (Vector.replicate (32 : Nat) (0 : UInt8)) (0 : Nat) (2 : UInt8)) ([] : List UInt8)) = (5 : Int))) else false) true then (bif eqb (bif true then (decide ((bitV (Vector.setIfInBounds (Vector.replicate (32 : Nat) (0 : UInt8)) (0 : Nat) (2 : UInt8)) (1 : UInt8)) = (1 : UInt8))) else false) true then ((bif true then (decide ((checkV (keyV (Vector.replicate (32 : Nat) (0 : UInt8))) (Vector.replicate (32 : Nat) (0 : UInt8)) (sigL (Vector.replicate (32 : Nat) (0 : UInt8)) (Vector.setIfInBounds (Vector.replicate (32 : Nat) (0 : UInt8)) (0 : Nat) (2 : UInt8)))) = (5 : Int))) else false))
          else (false))
        else (false))
      else (false))
    else (false)) := by kernel_rfl
def lvS (k v : Nat) : List Nat := shaNat (shaNat (List.replicate 32 0 ++ [k, v]))
def lvA (n : Nat) : List Nat := (List.range n).flatMap fun k => if k = 1 then lvS k 1 ++ lvS k 0 else lvS k 0 ++ lvS k 1
def lvB (n : Nat) : List Nat := (List.range n).flatMap fun k => lvS k 0 ++ lvS k 1
theorem lv_ne : (List.beq (shaNat (lvA 32)) (shaNat (lvB 32))) = false := by decide +kernel
def lvZ : Vector UInt8 32 := Vector.replicate 32 0
def lvD : Vector UInt8 32 := Vector.setIfInBounds lvZ 0 2
theorem lv_S (k : Nat) (h : k < 32) (v : UInt8) : (hhL (secV lvZ (UInt8.ofNat k) v)).map UInt8.toNat = lvS k v.toNat := by
  have e : (lvZ.toList ++ [UInt8.ofNat k, v]).map UInt8.toNat = List.replicate 32 0 ++ [k, v.toNat] := by
    rw [List.map_append]
    congr 1
    rw [List.map_cons, List.map_cons, List.map_nil, UInt8.toNat_ofNat', Nat.mod_eq_of_lt (by omega)]
  rw [hhL_eq, shaSum_nat _ (by rw [Vector.length_toList]; decide), secV_eq, shaSum_nat _ (by rw [List.length_append, Vector.length_toList]; show 32 + 2 < 4294967296; decide), e]
  rfl
theorem lv_bits : ∀ k, k < 32 → bitN lvD (UInt8.ofNat k) = if k = 1 then 1 else 0 := by decide +kernel
theorem lv_zero : ∀ k, k < 32 → bitN lvZ (UInt8.ofNat k) = 0 := by decide +kernel
theorem lv_chk : ∀ n, n ≤ 32 → (chkB lvZ (sigL lvZ lvD) n).map UInt8.toNat = lvA n
  | 0, _ => rfl
  | n + 1, hn => by
    have hb : bitV lvD (UInt8.ofNat n) = if n = 1 then 1 else 0 := (bitV_eq _ _).trans (lv_bits n (by omega))
    have hz : bitV lvZ (UInt8.ofNat n) = 0 := (bitV_eq _ _).trans (lv_zero n (by omega))
    rw [chkB, List.map_append, lv_chk n (by omega), pairB_sig lvZ lvD lvZ (by omega), hz, if_pos rfl, hb, List.map_append, lv_S n (by omega), lv_S n (by omega)]
    unfold lvA
    rw [List.range_succ, List.flatMap_append]
    congr 1
    by_cases e : n = 1
    · subst e; rfl
    · rw [if_neg e]
      simp only [List.flatMap_cons, List.flatMap_nil, List.append_nil, if_neg e]
      rfl
theorem lv_key : ∀ n, n ≤ 32 → (keyU lvZ n).map UInt8.toNat = lvB n
  | 0, _ => rfl
  | n + 1, hn => by
    rw [keyU_step lvZ (by omega), List.map_append, List.map_append, lv_key n (by omega), lv_S n (by omega), lv_S n (by omega)]
    unfold lvB
    rw [List.range_succ, List.flatMap_append, List.append_assoc]
    congr 1
    simp only [List.flatMap_cons, List.flatMap_nil, List.append_nil]
    rfl
theorem lv_last : checkV (keyV lvZ) lvZ (sigL lvZ lvD) = 5 := by
  rw [checkV_eq, if_pos (sigL_len lvZ lvD), if_neg]
  intro h
  have h1 : (shaSum (chkB lvZ (sigL lvZ lvD) 32)).toList.map UInt8.toNat = (keyV lvZ).toList.map UInt8.toNat := by rw [h]
  rw [shaSum_nat _ (by rw [chkB_len (sigL_len lvZ lvD) (Nat.le_refl _)]; decide), lv_chk 32 (Nat.le_refl _), keyV_eq, ← keyU_done, shaSum_nat _ (by rw [keyU_len lvZ (Nat.le_refl _)]; decide), lv_key 32 (Nat.le_refl _)] at h1
  have h2 := lv_ne
  rw [h1] at h2
  have h3 : ∀ l : List Nat, List.beq l l = true := fun l => by
    induction l with
    | nil => rfl
    | cons x l ih => rw [List.beq, ih, Bool.and_true]; exact beq_self_eq_true x
  rw [h3] at h2
  cases h2
theorem law13_lives_spec : law13_lives = true := by
  have h2 : checkV (keyV lvZ) lvD (sigL lvZ lvD) = 0 := check_back lvZ lvD lvD fun _ _ => rfl
  have h3 : checkV (keyV lvZ) lvD [] = 5 := by rw [checkV_eq, if_neg (by decide)]
  have h4 : bitV lvD 1 = 1 := (bitV_eq _ _).trans (lv_bits 1 (by decide))
  rw [law13_lives_q]
  show (bif eqb (decide (((sigL lvZ lvD).length : Int) = 2048)) true then (bif eqb (bif true then decide (checkV (keyV lvZ) lvD (sigL lvZ lvD) = 0) else false) true then
    (bif eqb (bif true then decide (checkV (keyV lvZ) lvD [] = 5) else false) true then (bif eqb (bif true then decide (bitV lvD 1 = 1) else false) true then
      (bif true then decide (checkV (keyV lvZ) lvZ (sigL lvZ lvD) = 5) else false) else false) else false) else false) else false) = true
  rw [sigL_len, h2, h3, h4, lv_last]
  rfl

end
end Go.Proofs.YtkjillpcmffgoaaDoor.M

namespace Go.Proofs.YtkjillpcmffgoaaDoor.M
open Go
noncomputable section
set_option maxRecDepth 100000
set_option maxHeartbeats 0
noncomputable def law13_lives_T : Tbl := [(39, [], lamp_Sign_c), (37, [], lamp_Key_c), (42, [], lamp_Check_c), (35, [], lamp_Bit_c)]
noncomputable def law13_lives_C : CfgW := mkC Tryd.prog theG law13_lives_T 39 0 false
def law13_lives_lv : Nat → List Nat := fun i => []
noncomputable abbrev law13_lives_b : Code := Tryd.f41.body.getD .skip
noncomputable abbrev law13_lives_r : List ResultVar := Tryd.f41.results.toList
def law13_lives_hs : List Nat := []

def law13_lives_enc (r : Bool) : CallOut := ⟨.pv (.sc .b r), [], true, []⟩
theorem law13_lives_e  (Q : CallOut → Prop) : evalFnP law13_lives_C law13_lives_lv law13_lives_r law13_lives_hs law13_lives_b [] [] Q =
    ((((0 : Int) ≤ (0 : Int)) ∧ ((0 : Int) < (32 : Int))) ∧ (condP (eqb (decide ((((List.length (sigL (Vector.replicate (32 : Nat) (0 : UInt8)) (Vector.setIfInBounds (Vector.replicate (32 : Nat) (0 : UInt8)) (0 : Nat) (2 : UInt8)))) : Nat) : Int) = (2048 : Int))) true) (condP (eqb (bif true then (decide ((checkV (keyV (Vector.replicate (32 : Nat) (0 : UInt8))) (Vector.setIfInBounds (Vector.replicate (32 : Nat) (0 : UInt8)) (0 : Nat) (2 : UInt8)) (sigL (Vector.replicate (32 : Nat) (0 : UInt8)) (Vector.setIfInBounds (Vector.replicate (32 : Nat) (0 : UInt8)) (0 : Nat) (2 : UInt8)))) = (0 : Int))) else false) true) (condP (eqb (bif true then (decide ((checkV (keyV (Vector.replicate (32 : Nat) (0 : UInt8))) (Vector.setIfInBounds (Vector.replicate (32 : Nat) (0 : UInt8)) (0 : Nat) (2 : UInt8)) ([] : List UInt8)) = (5 : Int))) else false) true) (condP (eqb (bif true then (decide ((bitV (Vector.setIfInBounds (Vector.replicate (32 : Nat) (0 : UInt8)) (0 : Nat) (2 : UInt8)) (1 : UInt8)) = (1 : UInt8))) else false) true) (Q (law13_lives_enc (bif true then (decide ((checkV (keyV (Vector.replicate (32 : Nat) (0 : UInt8))) (Vector.replicate (32 : Nat) (0 : UInt8)) (sigL (Vector.replicate (32 : Nat) (0 : UInt8)) (Vector.setIfInBounds (Vector.replicate (32 : Nat) (0 : UInt8)) (0 : Nat) (2 : UInt8)))) = (5 : Int))) else false))) (Q (law13_lives_enc false))) (Q (law13_lives_enc false))) (Q (law13_lives_enc false))) (Q (law13_lives_enc false)))) := by kernel_rfl
theorem law13_lives_w  {Q : CallOut → Prop} (h : Q (law13_lives_enc (law13_lives ))) : evalFnP law13_lives_C law13_lives_lv law13_lives_r law13_lives_hs law13_lives_b [] [] Q :=
  Eq.mpr (law13_lives_e  Q) (have h := Eq.mp (congrArg (fun r => Q (law13_lives_enc r)) (law13_lives_q )) h; ⟨by decide +kernel, cond_ok2 (Q := fun r => Q (law13_lives_enc r)) h (fun h => cond_ok2 (Q := fun r => Q (law13_lives_enc r)) h (fun h => cond_ok2 (Q := fun r => Q (law13_lives_enc r)) h (fun h => cond_ok2 (Q := fun r => Q (law13_lives_enc r)) h (fun h => h) (fun h => h)) (fun h => h)) (fun h => h)) (fun h => h)⟩)
def law13_lives_c : Ans
  | [], [] => some (none, law13_lives_enc (true))
  | _, _ => none
theorem law13_lives_tok : TblOK Tryd.prog theG law13_lives_T := .cons ⟨by kernel_rfl, lamp_Sign_ok⟩ (.cons ⟨by kernel_rfl, lamp_Key_ok⟩ (.cons ⟨by kernel_rfl, lamp_Check_ok⟩ (.cons ⟨by kernel_rfl, lamp_Bit_ok⟩ (.nil))))
theorem law13_lives_ok : FnOK Tryd.prog theG 41 (unW law13_lives_c) := by
  refine FnOK.ofC (T := law13_lives_T) (nt := 39) (np := 0) (mv := []) (nf := false) (hs := law13_lives_hs) (fn := Tryd.f41) (body := law13_lives_b) law13_lives_tok (by kernel_rfl) (by kernel_rfl) (by kernel_rfl) (by kernel_rfl) (c := law13_lives_c) (lv := law13_lives_lv) ?_
  intro xs mem p out h hp
  unfold law13_lives_c at h
  split at h
  · cases h
    exact law13_lives_w  (congrArg law13_lives_enc (law13_lives_spec))
  · cases h
end
end Go.Proofs.YtkjillpcmffgoaaDoor.M
