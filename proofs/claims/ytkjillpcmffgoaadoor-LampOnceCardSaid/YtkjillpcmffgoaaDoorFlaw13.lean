/- Part of the proofs: what functions of the program do: plain functions, and the walks that show it. No condition. -/
import Derived.KernelRfl
import Derived.Test.YtkjillpcmffgoaaDoorProg
import Derived.Test.YtkjillpcmffgoaaDoorLe
import Derived.Test.YtkjillpcmffgoaaDoorFlamp
import Derived.Test.YtkjillpcmffgoaaDoorSwords
import Derived.Test.YtkjillpcmffgoaaDoorSshaS
import Derived.Test.YtkjillpcmffgoaaDoorSmerS
import Derived.Test.YtkjillpcmffgoaaDoorSlampS
import Derived.Test.YtkjillpcmffgoaaDoorSshaE
import Derived.Test.YtkjillpcmffgoaaDoorFref02
import Derived.Test.YtkjillpcmffgoaaDoorFref00
import Derived.Test.YtkjillpcmffgoaaDoorFref13
import Derived.Test.YtkjillpcmffgoaaDoorSshaK
set_option linter.unusedVariables false
set_option linter.unusedSimpArgs false
set_option autoImplicit false
namespace Go.Proofs.YtkjillpcmffgoaaDoor.M
open Go
noncomputable section
/-- moneyer/moneyerlaw13.lives -/
def law13_lives  : Bool :=
  bif eqb (decide ((((List.length (sigL (Vector.replicate (32 : Nat) (0 : UInt8)) (Vector.setIfInBounds (Vector.replicate (32 : Nat) (0 : UInt8)) (0 : Nat) (2 : UInt8)))) : Nat) : Int) = (2048 : Int))) true then (bif eqb (bif true then (decide ((checkV (keyV (Vector.replicate (32 : Nat) (0 : UInt8))) (Vector.setIfInBounds (Vector.replicate (32 : Nat) (0 : UInt8)) (0 : Nat) (2 : UInt8)) (sigL (Vector.replicate (32 : Nat) (0 : UInt8)) (Vector.setIfInBounds (Vector.replicate (32 : Nat) (0 : UInt8)) (0 : Nat) (2 : UInt8)))) = (0 : Int))) else false) true then (bif eqb (bif true then (decide ((checkV (keyV (Vector.replicate (32 : Nat) (0 : UInt8))) (Vector.setIfInBounds (Vector.replicate (32 : Nat) (0 : UInt8)) (0 : Nat) (2 : UInt8)) ([] : List UInt8)) = (5 : Int))) else false) true then (bif eqb (bif true then (decide ((bitV (Vector.setIfInBounds (Vector.replicate (32 : Nat) (0 : UInt8)) (0 : Nat) (2 : UInt8)) (1 : UInt8)) = (1 : UInt8))) else false) true then ((bif true then (decide ((checkV (keyV (Vector.replicate (32 : Nat) (0 : UInt8))) (Vector.replicate (32 : Nat) (0 : UInt8)) (sigL (Vector.replicate (32 : Nat) (0 : UInt8)) (Vector.setIfInBounds (Vector.replicate (32 : Nat) (0 : UInt8)) (0 : Nat) (2 : UInt8)))) = (5 : Int))) else false))
          else (false))
        else (false))
      else (false))
    else (false)
theorem law13_lives_q  : law13_lives  = (bif eqb (decide ((((List.length (sigL (Vector.replicate (32 : Nat) (0 : UInt8)) (Vector.setIfInBounds (Vector.replicate (32 : Nat) (0 : UInt8)) (0 : Nat) (2 : UInt8)))) : Nat) : Int) = (2048 : Int))) true then (bif eqb (bif true then (decide ((checkV (keyV (Vector.replicate (32 : Nat) (0 : UInt8))) (Vector.setIfInBounds (Vector.replicate (32 : Nat) (0 : UInt8)) (0 : Nat) (2 : UInt8)) (sigL (Vector.replicate (32 : Nat) (0 : UInt8)) (Vector.setIfInBounds (Vector.replicate (32 : Nat) (0 : UInt8)) (0 : Nat) (2 : UInt8)))) = (0 : Int))) else false) true then (bif eqb (bif true then (decide ((checkV (keyV (Vector.replicate (32 : Nat) (0 : UInt8))) (Vector.setIfInBounds (Vector.replicate (32 : Nat) (0 : UInt8)) (0 : Nat) (2 : UInt8)) ([] : List UInt8)) = (5 : Int))) else false) true then (bif eqb (bif true then (decide ((bitV (Vector.setIfInBounds (Vector.replicate (32 : Nat) (0 : UInt8)) (0 : Nat) (2 : UInt8)) (1 : UInt8)) = (1 : UInt8))) else false) true then ((bif true then (decide ((checkV (keyV (Vector.replicate (32 : Nat) (0 : UInt8))) (Vector.replicate (32 : Nat) (0 : UInt8)) (sigL (Vector.replicate (32 : Nat) (0 : UInt8)) (Vector.setIfInBounds (Vector.replicate (32 : Nat) (0 : UInt8)) (0 : Nat) (2 : UInt8)))) = (5 : Int))) else false))
          else (false))
        else (false))
      else (false))
    else (false)) := by kernel_rfl
def lvS (k v : Nat) : List Nat := shaNat (shaNat (List.replicate 32 0 ++ [k, v]))
def lvA (n : Nat) : List Nat := (List.range n).flatMap fun k => if k = 1 then lvS k 1 ++ lvS k 0 else lvS k 0 ++ lvS k 1
def lvB (n : Nat) : List Nat := (List.range n).flatMap fun k => lvS k 0 ++ lvS k 1
theorem lv_ne : (List.beq (shaNat (lvA 32)) (shaNat (lvB 32))) = false := by decide +kernel
def lvZ : Vector UInt8 32 := Vector.replicate 32 0
def lvD : Vector UInt8 32 := Vector.setIfInBounds lvZ 0 2
theorem lv_S (k : Nat) (h : k < 32) (v : UInt8) : (hhL (secV lvZ (UInt8.ofNat k) v)).map UInt8.toNat = lvS k v.toNat := by
  have e : (lvZ.toList ++ [UInt8.ofNat k, v]).map UInt8.toNat = List.replicate 32 0 ++ [k, v.toNat] := by
    rw [List.map_append]
    congr 1
    rw [List.map_cons, List.map_cons, List.map_nil, UInt8.toNat_ofNat', Nat.mod_eq_of_lt (by omega)]
  rw [hhL_eq, shaSum_nat _ (by rw [Vector.length_toList]; decide), secV_eq, shaSum_nat _ (by rw [List.length_append, Vector.length_toList]; show 32 + 2 < 4294967296; decide), e]
  rfl
theorem lv_bits : ∀ k, k < 32 → bitN lvD (UInt8.ofNat k) = if k = 1 then 1 else 0 := by decide +kernel
theorem lv_zero : ∀ k, k < 32 → bitN lvZ (UInt8.ofNat k) = 0 := by decide +kernel
theorem lv_chk : ∀ n, n ≤ 32 → (chkB lvZ (sigL lvZ lvD) n).map UInt8.toNat = lvA n
  | 0, _ => rfl
  | n + 1, hn => by
    have hb : bitV lvD (UInt8.ofNat n) = if n = 1 then 1 else 0 := (bitV_eq _ _).trans (lv_bits n (by omega))
    have hz : bitV lvZ (UInt8.ofNat n) = 0 := (bitV_eq _ _).trans (lv_zero n (by omega))
    rw [chkB, List.map_append, lv_chk n (by omega), pairB_sig lvZ lvD lvZ (by omega), hz, if_pos rfl, hb, List.map_append, lv_S n (by omega), lv_S n (by omega)]
    unfold lvA
    rw [List.range_succ, List.flatMap_append]
    congr 1
    by_cases e : n = 1
    · subst e; rfl
    · rw [if_neg e]
      simp only [List.flatMap_cons, List.flatMap_nil, List.append_nil, if_neg e]
      rfl
theorem lv_key : ∀ n, n ≤ 32 → (keyU lvZ n).map UInt8.toNat = lvB n
  | 0, _ => rfl
  | n + 1, hn => by
    rw [keyU_step lvZ (by omega), List.map_append, List.map_append, lv_key n (by omega), lv_S n (by omega), lv_S n (by omega)]
    unfold lvB
    rw [List.range_succ, List.flatMap_append, List.append_assoc]
    congr 1
    simp only [List.flatMap_cons, List.flatMap_nil, List.append_nil]
    rfl
theorem lv_last : checkV (keyV lvZ) lvZ (sigL lvZ lvD) = 5 := by
  rw [checkV_eq, if_pos (sigL_len lvZ lvD), if_neg]
  intro h
  have h1 : (shaSum (chkB lvZ (sigL lvZ lvD) 32)).toList.map UInt8.toNat = (keyV lvZ).toList.map UInt8.toNat := by rw [h]
  rw [shaSum_nat _ (by rw [chkB_len (sigL_len lvZ lvD) (Nat.le_refl _)]; decide), lv_chk 32 (Nat.le_refl _), keyV_eq, ← keyU_done, shaSum_nat _ (by rw [keyU_len lvZ (Nat.le_refl _)]; decide), lv_key 32 (Nat.le_refl _)] at h1
  have h2 := lv_ne
  rw [h1] at h2
  have h3 : ∀ l : List Nat, List.beq l l = true := fun l => by
    induction l with
    | nil => rfl
    | cons x l ih => rw [List.beq, ih, Bool.and_true]; exact beq_self_eq_true x
  rw [h3] at h2
  cases h2
theorem law13_lives_spec : law13_lives = true := by
  have h2 : checkV (keyV lvZ) lvD (sigL lvZ lvD) = 0 := check_back lvZ lvD lvD fun _ _ => rfl
  have h3 : checkV (keyV lvZ) lvD [] = 5 := by rw [checkV_eq, if_neg (by decide)]
  have h4 : bitV lvD 1 = 1 := (bitV_eq _ _).trans (lv_bits 1 (by decide))
  rw [law13_lives_q]
  show (bif eqb (decide (((sigL lvZ lvD).length : Int) = 2048)) true then (bif eqb (bif true then decide (checkV (keyV lvZ) lvD (sigL lvZ lvD) = 0) else false) true then
    (bif eqb (bif true then decide (checkV (keyV lvZ) lvD [] = 5) else false) true then (bif eqb (bif true then decide (bitV lvD 1 = 1) else false) true then
      (bif true then decide (checkV (keyV lvZ) lvZ (sigL lvZ lvD) = 5) else false) else false) else false) else false) else false) = true
  rw [sigL_len, h2, h3, h4, lv_last]
  rfl

end
end Go.Proofs.YtkjillpcmffgoaaDoor.M

namespace Go.Proofs.YtkjillpcmffgoaaDoor.M
open Go
noncomputable section
/-- the loop 0 of moneyer/moneyerlaw13.parts -/
def law13_parts_h0 : Nat → (List UInt8) → Int → (Vector UInt8 32) → (List UInt8) → Option (List UInt8)
  | 0, _, _, _, _ => none
  | k + 1, s, k_, d, out => bif decide (k_ < (32 : Int)) then (if ((0 : Int) ≤ (w64 ((64 : Int) * k_))) ∧ (((w64 ((64 : Int) * k_)) ≤ (w64 ((w64 ((64 : Int) * k_)) + (32 : Int)))) ∧ ((w64 ((w64 ((64 : Int) * k_)) + (32 : Int))) ≤ (((List.length s) : Nat) : Int))) then
        if (List.length (List.take ((Int.toNat (w64 ((w64 ((64 : Int) * k_)) + (32 : Int)))) - (Int.toNat (w64 ((64 : Int) * k_)))) (List.drop (Int.toNat (w64 ((64 : Int) * k_))) s))) ≤ (1099511627776 : Nat) then
          if ((0 : Int) ≤ (w64 ((w64 ((64 : Int) * k_)) + (32 : Int)))) ∧ (((w64 ((w64 ((64 : Int) * k_)) + (32 : Int))) ≤ (w64 ((w64 ((64 : Int) * k_)) + (64 : Int)))) ∧ ((w64 ((w64 ((64 : Int) * k_)) + (64 : Int))) ≤ (((List.length s) : Nat) : Int))) then
            if (List.length (List.take ((Int.toNat (w64 ((w64 ((64 : Int) * k_)) + (64 : Int)))) - (Int.toNat (w64 ((w64 ((64 : Int) * k_)) + (32 : Int))))) (List.drop (Int.toNat (w64 ((w64 ((64 : Int) * k_)) + (32 : Int)))) s))) ≤ (70368744177664 : Nat) then
              bif decide ((bitV d (UInt8.ofInt k_)) = (1 : UInt8)) then (if (((List.length (out ++ (List.take ((Int.toNat (w64 ((w64 ((64 : Int) * k_)) + (64 : Int)))) - (Int.toNat (w64 ((w64 ((64 : Int) * k_)) + (32 : Int))))) (List.drop (Int.toNat (w64 ((w64 ((64 : Int) * k_)) + (32 : Int)))) s)))) * (1 : Nat)) ≤ (70368744177664 : Nat)) ∧ ((List.length (out ++ (List.take ((Int.toNat (w64 ((w64 ((64 : Int) * k_)) + (64 : Int)))) - (Int.toNat (w64 ((w64 ((64 : Int) * k_)) + (32 : Int))))) (List.drop (Int.toNat (w64 ((w64 ((64 : Int) * k_)) + (32 : Int)))) s)))) ≤ (70368744177664 : Nat)) then
                  if (((List.length ((out ++ (List.take ((Int.toNat (w64 ((w64 ((64 : Int) * k_)) + (64 : Int)))) - (Int.toNat (w64 ((w64 ((64 : Int) * k_)) + (32 : Int))))) (List.drop (Int.toNat (w64 ((w64 ((64 : Int) * k_)) + (32 : Int)))) s))) ++ (Vector.toList (shaSum (List.take ((Int.toNat (w64 ((w64 ((64 : Int) * k_)) + (32 : Int)))) - (Int.toNat (w64 ((64 : Int) * k_)))) (List.drop (Int.toNat (w64 ((64 : Int) * k_))) s)))))) * (1 : Nat)) ≤ (70368744177664 : Nat)) ∧ ((List.length ((out ++ (List.take ((Int.toNat (w64 ((w64 ((64 : Int) * k_)) + (64 : Int)))) - (Int.toNat (w64 ((w64 ((64 : Int) * k_)) + (32 : Int))))) (List.drop (Int.toNat (w64 ((w64 ((64 : Int) * k_)) + (32 : Int)))) s))) ++ (Vector.toList (shaSum (List.take ((Int.toNat (w64 ((w64 ((64 : Int) * k_)) + (32 : Int)))) - (Int.toNat (w64 ((64 : Int) * k_)))) (List.drop (Int.toNat (w64 ((64 : Int) * k_))) s)))))) ≤ (70368744177664 : Nat)) then
                    law13_parts_h0 k s (w64 (k_ + (1 : Int))) d ((out ++ (List.take ((Int.toNat (w64 ((w64 ((64 : Int) * k_)) + (64 : Int)))) - (Int.toNat (w64 ((w64 ((64 : Int) * k_)) + (32 : Int))))) (List.drop (Int.toNat (w64 ((w64 ((64 : Int) * k_)) + (32 : Int)))) s))) ++ (Vector.toList (shaSum (List.take ((Int.toNat (w64 ((w64 ((64 : Int) * k_)) + (32 : Int)))) - (Int.toNat (w64 ((64 : Int) * k_)))) (List.drop (Int.toNat (w64 ((64 : Int) * k_))) s)))))
                  else none
                else none)
                else (if (((List.length (out ++ (Vector.toList (shaSum (List.take ((Int.toNat (w64 ((w64 ((64 : Int) * k_)) + (32 : Int)))) - (Int.toNat (w64 ((64 : Int) * k_)))) (List.drop (Int.toNat (w64 ((64 : Int) * k_))) s)))))) * (1 : Nat)) ≤ (70368744177664 : Nat)) ∧ ((List.length (out ++ (Vector.toList (shaSum (List.take ((Int.toNat (w64 ((w64 ((64 : Int) * k_)) + (32 : Int)))) - (Int.toNat (w64 ((64 : Int) * k_)))) (List.drop (Int.toNat (w64 ((64 : Int) * k_))) s)))))) ≤ (70368744177664 : Nat)) then
                  if (((List.length ((out ++ (Vector.toList (shaSum (List.take ((Int.toNat (w64 ((w64 ((64 : Int) * k_)) + (32 : Int)))) - (Int.toNat (w64 ((64 : Int) * k_)))) (List.drop (Int.toNat (w64 ((64 : Int) * k_))) s))))) ++ (List.take ((Int.toNat (w64 ((w64 ((64 : Int) * k_)) + (64 : Int)))) - (Int.toNat (w64 ((w64 ((64 : Int) * k_)) + (32 : Int))))) (List.drop (Int.toNat (w64 ((w64 ((64 : Int) * k_)) + (32 : Int)))) s)))) * (1 : Nat)) ≤ (70368744177664 : Nat)) ∧ ((List.length ((out ++ (Vector.toList (shaSum (List.take ((Int.toNat (w64 ((w64 ((64 : Int) * k_)) + (32 : Int)))) - (Int.toNat (w64 ((64 : Int) * k_)))) (List.drop (Int.toNat (w64 ((64 : Int) * k_))) s))))) ++ (List.take ((Int.toNat (w64 ((w64 ((64 : Int) * k_)) + (64 : Int)))) - (Int.toNat (w64 ((w64 ((64 : Int) * k_)) + (32 : Int))))) (List.drop (Int.toNat (w64 ((w64 ((64 : Int) * k_)) + (32 : Int)))) s)))) ≤ (70368744177664 : Nat)) then
                    law13_parts_h0 k s (w64 (k_ + (1 : Int))) d ((out ++ (Vector.toList (shaSum (List.take ((Int.toNat (w64 ((w64 ((64 : Int) * k_)) + (32 : Int)))) - (Int.toNat (w64 ((64 : Int) * k_)))) (List.drop (Int.toNat (w64 ((64 : Int) * k_))) s))))) ++ (List.take ((Int.toNat (w64 ((w64 ((64 : Int) * k_)) + (64 : Int)))) - (Int.toNat (w64 ((w64 ((64 : Int) * k_)) + (32 : Int))))) (List.drop (Int.toNat (w64 ((w64 ((64 : Int) * k_)) + (32 : Int)))) s)))
                  else none
                else none)
            else none
          else none
        else none
      else none)
      else (some out)
theorem law13_parts_h0_q (k : Nat) (s : List UInt8) (k_ : Int) (d : Vector UInt8 32) (out : List UInt8) : law13_parts_h0 (k + 1) s k_ d out =
  (bif decide (k_ < (32 : Int)) then (if ((0 : Int) ≤ (w64 ((64 : Int) * k_))) ∧ (((w64 ((64 : Int) * k_)) ≤ (w64 ((w64 ((64 : Int) * k_)) + (32 : Int)))) ∧ ((w64 ((w64 ((64 : Int) * k_)) + (32 : Int))) ≤ (((List.length s) : Nat) : Int))) then
        if (List.length (List.take ((Int.toNat (w64 ((w64 ((64 : Int) * k_)) + (32 : Int)))) - (Int.toNat (w64 ((64 : Int) * k_)))) (List.drop (Int.toNat (w64 ((64 : Int) * k_))) s))) ≤ (1099511627776 : Nat) then
          if ((0 : Int) ≤ (w64 ((w64 ((64 : Int) * k_)) + (32 : Int)))) ∧ (((w64 ((w64 ((64 : Int) * k_)) + (32 : Int))) ≤ (w64 ((w64 ((64 : Int) * k_)) + (64 : Int)))) ∧ ((w64 ((w64 ((64 : Int) * k_)) + (64 : Int))) ≤ (((List.length s) : Nat) : Int))) then
            if (List.length (List.take ((Int.toNat (w64 ((w64 ((64 : Int) * k_)) + (64 : Int)))) - (Int.toNat (w64 ((w64 ((64 : Int) * k_)) + (32 : Int))))) (List.drop (Int.toNat (w64 ((w64 ((64 : Int) * k_)) + (32 : Int)))) s))) ≤ (70368744177664 : Nat) then
              bif decide ((bitV d (UInt8.ofInt k_)) = (1 : UInt8)) then (if (((List.length (out ++ (List.take ((Int.toNat (w64 ((w64 ((64 : Int) * k_)) + (64 : Int)))) - (Int.toNat (w64 ((w64 ((64 : Int) * k_)) + (32 : Int))))) (List.drop (Int.toNat (w64 ((w64 ((64 : Int) * k_)) + (32 : Int)))) s)))) * (1 : Nat)) ≤ (70368744177664 : Nat)) ∧ ((List.length (out ++ (List.take ((Int.toNat (w64 ((w64 ((64 : Int) * k_)) + (64 : Int)))) - (Int.toNat (w64 ((w64 ((64 : Int) * k_)) + (32 : Int))))) (List.drop (Int.toNat (w64 ((w64 ((64 : Int) * k_)) + (32 : Int)))) s)))) ≤ (70368744177664 : Nat)) then
                  if (((List.length ((out ++ (List.take ((Int.toNat (w64 ((w64 ((64 : Int) * k_)) + (64 : Int)))) - (Int.toNat (w64 ((w64 ((64 : Int) * k_)) + (32 : Int))))) (List.drop (Int.toNat (w64 ((w64 ((64 : Int) * k_)) + (32 : Int)))) s))) ++ (Vector.toList (shaSum (List.take ((Int.toNat (w64 ((w64 ((64 : Int) * k_)) + (32 : Int)))) - (Int.toNat (w64 ((64 : Int) * k_)))) (List.drop (Int.toNat (w64 ((64 : Int) * k_))) s)))))) * (1 : Nat)) ≤ (70368744177664 : Nat)) ∧ ((List.length ((out ++ (List.take ((Int.toNat (w64 ((w64 ((64 : Int) * k_)) + (64 : Int)))) - (Int.toNat (w64 ((w64 ((64 : Int) * k_)) + (32 : Int))))) (List.drop (Int.toNat (w64 ((w64 ((64 : Int) * k_)) + (32 : Int)))) s))) ++ (Vector.toList (shaSum (List.take ((Int.toNat (w64 ((w64 ((64 : Int) * k_)) + (32 : Int)))) - (Int.toNat (w64 ((64 : Int) * k_)))) (List.drop (Int.toNat (w64 ((64 : Int) * k_))) s)))))) ≤ (70368744177664 : Nat)) then
                    law13_parts_h0 k s (w64 (k_ + (1 : Int))) d ((out ++ (List.take ((Int.toNat (w64 ((w64 ((64 : Int) * k_)) + (64 : Int)))) - (Int.toNat (w64 ((w64 ((64 : Int) * k_)) + (32 : Int))))) (List.drop (Int.toNat (w64 ((w64 ((64 : Int) * k_)) + (32 : Int)))) s))) ++ (Vector.toList (shaSum (List.take ((Int.toNat (w64 ((w64 ((64 : Int) * k_)) + (32 : Int)))) - (Int.toNat (w64 ((64 : Int) * k_)))) (List.drop (Int.toNat (w64 ((64 : Int) * k_))) s)))))
                  else none
                else none)
                else (if (((List.length (out ++ (Vector.toList (shaSum (List.take ((Int.toNat (w64 ((w64 ((64 : Int) * k_)) + (32 : Int)))) - (Int.toNat (w64 ((64 : Int) * k_)))) (List.drop (Int.toNat (w64 ((64 : Int) * k_))) s)))))) * (1 : Nat)) ≤ (70368744177664 : Nat)) ∧ ((List.length (out ++ (Vector.toList (shaSum (List.take ((Int.toNat (w64 ((w64 ((64 : Int) * k_)) + (32 : Int)))) - (Int.toNat (w64 ((64 : Int) * k_)))) (List.drop (Int.toNat (w64 ((64 : Int) * k_))) s)))))) ≤ (70368744177664 : Nat)) then
                  if (((List.length ((out ++ (Vector.toList (shaSum (List.take ((Int.toNat (w64 ((w64 ((64 : Int) * k_)) + (32 : Int)))) - (Int.toNat (w64 ((64 : Int) * k_)))) (List.drop (Int.toNat (w64 ((64 : Int) * k_))) s))))) ++ (List.take ((Int.toNat (w64 ((w64 ((64 : Int) * k_)) + (64 : Int)))) - (Int.toNat (w64 ((w64 ((64 : Int) * k_)) + (32 : Int))))) (List.drop (Int.toNat (w64 ((w64 ((64 : Int) * k_)) + (32 : Int)))) s)))) * (1 : Nat)) ≤ (70368744177664 : Nat)) ∧ ((List.length ((out ++ (Vector.toList (shaSum (List.take ((Int.toNat (w64 ((w64 ((64 : Int) * k_)) + (32 : Int)))) - (Int.toNat (w64 ((64 : Int) * k_)))) (List.drop (Int.toNat (w64 ((64 : Int) * k_))) s))))) ++ (List.take ((Int.toNat (w64 ((w64 ((64 : Int) * k_)) + (64 : Int)))) - (Int.toNat (w64 ((w64 ((64 : Int) * k_)) + (32 : Int))))) (List.drop (Int.toNat (w64 ((w64 ((64 : Int) * k_)) + (32 : Int)))) s)))) ≤ (70368744177664 : Nat)) then
                    law13_parts_h0 k s (w64 (k_ + (1 : Int))) d ((out ++ (Vector.toList (shaSum (List.take ((Int.toNat (w64 ((w64 ((64 : Int) * k_)) + (32 : Int)))) - (Int.toNat (w64 ((64 : Int) * k_)))) (List.drop (Int.toNat (w64 ((64 : Int) * k_))) s))))) ++ (List.take ((Int.toNat (w64 ((w64 ((64 : Int) * k_)) + (64 : Int)))) - (Int.toNat (w64 ((w64 ((64 : Int) * k_)) + (32 : Int))))) (List.drop (Int.toNat (w64 ((w64 ((64 : Int) * k_)) + (32 : Int)))) s)))
                  else none
                else none)
            else none
          else none
        else none
      else none)
      else (some out)) := by kernel_rfl
/-- moneyer/moneyerlaw13.parts -/
def law13_parts (k : Nat) (d : Vector UInt8 32) (s : List UInt8) : Option (List UInt8) :=
  law13_parts_h0 k s (0 : Int) d ([] : List UInt8)
theorem law13_parts_q (k : Nat) (d : Vector UInt8 32) (s : List UInt8) : law13_parts k d s = (law13_parts_h0 k s (0 : Int) d ([] : List UInt8)) := by kernel_rfl
theorem law13_parts_spec (d : Vector UInt8 32) (sig : List UInt8) (hl : sig.length = 2048) : Ev (fun k => law13_parts k d sig) (partsV d sig) := by
  refine Ev.same (fun k => law13_parts_q k d sig) ?_
  rw [partsV_eq]
  refine Ev.rise (n := 32) (H := fun k i s => law13_parts_h0 k sig i d s) (chkB d sig) (fun i hi ih => ?_) ?_ 32 0 (by omega)
  · refine Ev.step (fun k => ?_) ih
    have w1 : w64 ((64 : Int) * (i : Int)) = ((64 * i : Nat) : Int) := by rw [w64_id (by omega) (by omega)]; omega
    have w0 : w64 ((i : Int) + 1) = (i : Int) + 1 := by rw [w64_id (by omega) (by omega)]
    have w2 : w64 (((64 * i : Nat) : Int) + 32) = ((64 * i + 32 : Nat) : Int) := by rw [w64_id (by omega) (by omega)]; omega
    have w3 : w64 (((64 * i : Nat) : Int) + 64) = ((64 * i + 64 : Nat) : Int) := by rw [w64_id (by omega) (by omega)]; omega
    have hp := partL_len hl hi
    have e1 : List.take (64 * i + 32 - 64 * i) (List.drop (64 * i) sig) = (partL sig i).take 32 := by rw [partL, Nat.add_sub_cancel_left, List.take_take]; rfl
    have e2 : List.take (64 * i + 64 - (64 * i + 32)) (List.drop (64 * i + 32) sig) = (partL sig i).drop 32 := by
      rw [partL, List.drop_take, List.drop_drop, show 64 * i + 64 - (64 * i + 32) = 64 - 32 by omega]
    have e4 : ∀ x, Vector.toList (shaSum x) = hL x := fun x => (hL_eq x).symm
    have hc := chkB_len (d := d) hl (k := i) (by omega)
    have hs : chkB d sig (i + 1) = chkB d sig i ++ pairB d sig i := rfl
    show law13_parts_h0 (k + 1) sig (i : Int) d (chkB d sig i) = law13_parts_h0 k sig ((i : Int) + 1) d (chkB d sig (i + 1))
    rw [law13_parts_h0_q, bif_pos (by omega)]
    simp only [w0, w1, w2, w3, Int.toNat_natCast, e1, e2, e4, u8_ofInt]
    have lt : (List.take 32 (partL sig i)).length = 32 := by rw [List.length_take, hp]; rfl
    have ld : (List.drop 32 (partL sig i)).length = 32 := by rw [List.length_drop, hp]
    have q1 : (chkB d sig i ++ hL ((partL sig i).take 32)).length = 64 * i + 32 := by rw [List.length_append, hc, hL_len]
    have q2 : (chkB d sig i ++ (partL sig i).drop 32).length = 64 * i + 32 := by rw [List.length_append, hc, ld]
    have q3 : (chkB d sig i ++ hL ((partL sig i).take 32) ++ (partL sig i).drop 32).length = 64 * i + 64 := by rw [List.length_append, q1, ld]
    have q4 : (chkB d sig i ++ (partL sig i).drop 32 ++ hL ((partL sig i).take 32)).length = 64 * i + 64 := by rw [List.length_append, q2, hL_len]
    rw [lt, ld, q1, q2, q3, q4, hs]
    rw [if_pos ⟨by omega, by omega, by omega⟩, if_pos (by omega), if_pos ⟨by omega, by omega, by omega⟩, if_pos (by omega)]
    rcases bitV_01 d (UInt8.ofNat i) with hb | hb
    · have hpb : pairB d sig i = hL ((partL sig i).take 32) ++ (partL sig i).drop 32 := by rw [pairB, if_pos hb]
      rw [hb, decide_eq_false (by decide), cond_false, if_pos ⟨by omega, by omega⟩, if_pos ⟨by omega, by omega⟩, hpb, List.append_assoc]
    · have hpb : pairB d sig i = (partL sig i).drop 32 ++ hL ((partL sig i).take 32) := by rw [pairB, if_neg (by rw [hb]; decide)]
      rw [hb, decide_eq_true rfl, cond_true, if_pos ⟨by omega, by omega⟩, if_pos ⟨by omega, by omega⟩, hpb, List.append_assoc]
  · refine Ev.done fun k => ?_
    show law13_parts_h0 (k + 1) sig ((32 : Nat) : Int) d (chkB d sig 32) = _
    rw [law13_parts_h0_q, bif_neg (by omega)]

end
end Go.Proofs.YtkjillpcmffgoaaDoor.M

namespace Go.Proofs.YtkjillpcmffgoaaDoor.M
open Go
noncomputable section
set_option maxRecDepth 100000
set_option maxHeartbeats 0
noncomputable def law13_lives_T : Tbl := [(39, [], lamp_Sign_c), (37, [], lamp_Key_c), (42, [], lamp_Check_c), (35, [], lamp_Bit_c)]
noncomputable def law13_lives_C : CfgW := mkC Tryd.prog theG law13_lives_T 39 0 false
def law13_lives_lv : Nat → List Nat := fun i => []
noncomputable abbrev law13_lives_b : Code := Tryd.f41.body.getD .skip
noncomputable abbrev law13_lives_r : List ResultVar := Tryd.f41.results.toList
def law13_lives_hs : List Nat := []

def law13_lives_enc (r : Bool) : CallOut := ⟨.pv (.sc .b r), [], true, []⟩
theorem law13_lives_e  (Q : CallOut → Prop) : evalFnP law13_lives_C law13_lives_lv law13_lives_r law13_lives_hs law13_lives_b [] [] Q =
    ((((0 : Int) ≤ (0 : Int)) ∧ ((0 : Int) < (32 : Int))) ∧ (condP (eqb (decide ((((List.length (sigL (Vector.replicate (32 : Nat) (0 : UInt8)) (Vector.setIfInBounds (Vector.replicate (32 : Nat) (0 : UInt8)) (0 : Nat) (2 : UInt8)))) : Nat) : Int) = (2048 : Int))) true) (condP (eqb (bif true then (decide ((checkV (keyV (Vector.replicate (32 : Nat) (0 : UInt8))) (Vector.setIfInBounds (Vector.replicate (32 : Nat) (0 : UInt8)) (0 : Nat) (2 : UInt8)) (sigL (Vector.replicate (32 : Nat) (0 : UInt8)) (Vector.setIfInBounds (Vector.replicate (32 : Nat) (0 : UInt8)) (0 : Nat) (2 : UInt8)))) = (0 : Int))) else false) true) (condP (eqb (bif true then (decide ((checkV (keyV (Vector.replicate (32 : Nat) (0 : UInt8))) (Vector.setIfInBounds (Vector.replicate (32 : Nat) (0 : UInt8)) (0 : Nat) (2 : UInt8)) ([] : List UInt8)) = (5 : Int))) else false) true) (condP (eqb (bif true then (decide ((bitV (Vector.setIfInBounds (Vector.replicate (32 : Nat) (0 : UInt8)) (0 : Nat) (2 : UInt8)) (1 : UInt8)) = (1 : UInt8))) else false) true) (Q (law13_lives_enc (bif true then (decide ((checkV (keyV (Vector.replicate (32 : Nat) (0 : UInt8))) (Vector.replicate (32 : Nat) (0 : UInt8)) (sigL (Vector.replicate (32 : Nat) (0 : UInt8)) (Vector.setIfInBounds (Vector.replicate (32 : Nat) (0 : UInt8)) (0 : Nat) (2 : UInt8)))) = (5 : Int))) else false))) (Q (law13_lives_enc false))) (Q (law13_lives_enc false))) (Q (law13_lives_enc false))) (Q (law13_lives_enc false)))) := by kernel_rfl
theorem law13_lives_w  {Q : CallOut → Prop} (h : Q (law13_lives_enc (law13_lives ))) : evalFnP law13_lives_C law13_lives_lv law13_lives_r law13_lives_hs law13_lives_b [] [] Q :=
  Eq.mpr (law13_lives_e  Q) (have h := Eq.mp (congrArg (fun r => Q (law13_lives_enc r)) (law13_lives_q )) h; ⟨by decide +kernel, cond_ok2 (Q := fun r => Q (law13_lives_enc r)) h (fun h => cond_ok2 (Q := fun r => Q (law13_lives_enc r)) h (fun h => cond_ok2 (Q := fun r => Q (law13_lives_enc r)) h (fun h => cond_ok2 (Q := fun r => Q (law13_lives_enc r)) h (fun h => h) (fun h => h)) (fun h => h)) (fun h => h)) (fun h => h)⟩)
def law13_lives_c : Ans
  | [], [] => some (none, law13_lives_enc (true))
  | _, _ => none
theorem law13_lives_tok : TblOK Tryd.prog theG law13_lives_T := .cons ⟨by kernel_rfl, lamp_Sign_ok⟩ (.cons ⟨by kernel_rfl, lamp_Key_ok⟩ (.cons ⟨by kernel_rfl, lamp_Check_ok⟩ (.cons ⟨by kernel_rfl, lamp_Bit_ok⟩ (.nil))))
theorem law13_lives_ok : FnOK Tryd.prog theG 41 (unW law13_lives_c) := by
  refine FnOK.ofC (T := law13_lives_T) (nt := 39) (np := 0) (mv := []) (nf := false) (hs := law13_lives_hs) (fn := Tryd.f41) (body := law13_lives_b) law13_lives_tok (by kernel_rfl) (by kernel_rfl) (by kernel_rfl) (by kernel_rfl) (c := law13_lives_c) (lv := law13_lives_lv) ?_
  intro xs mem p out h hp
  unfold law13_lives_c at h
  split at h
  · cases h
    exact law13_lives_w  (congrArg law13_lives_enc (law13_lives_spec))
  · cases h
end
end Go.Proofs.YtkjillpcmffgoaaDoor.M

namespace Go.Proofs.YtkjillpcmffgoaaDoor.M
open Go
noncomputable section
set_option maxRecDepth 100000
set_option maxHeartbeats 0
noncomputable def law13_parts_T : Tbl := [(48, [], ref02_Sum_c), (49, [], ref02_List_c), (58, [], ref00_Copy_c), (36, [], ref13_Bit_c)]
noncomputable def law13_parts_C : CfgW := mkC Tryd.prog theG law13_parts_T 45 0 false
def law13_parts_lv : Nat → List Nat := fun i => bif Nat.beq i 0 then [1, 2, 5, 6] else []
noncomputable abbrev law13_parts_b : Code := Tryd.f47.body.getD .skip
noncomputable abbrev law13_parts_r : List ResultVar := Tryd.f47.results.toList
def law13_parts_hs : List Nat := []

def law13_parts_enc (r : List UInt8) : CallOut := ⟨.o 60000, [(60000, .row (.s .u8 r) false)], true, []⟩
def law13_parts_s0 (s : List UInt8) (k_ : Int) (d : Vector UInt8 32) (out : List UInt8) : St := ⟨[(1, .pv (.sl .u8 s)), (2, .p 60000 []), (5, .o 60001), (6, .pv (.sc .i k_))], [(60000, .box (.pv (.arr .u8 32 d))), (60001, .row (.s .u8 out) false)]⟩
theorem law13_parts_g0 (s : List UInt8) (k_ : Int) (d : Vector UInt8 32) (out : List UInt8) (Q : CallOut → Prop) : headRound law13_parts_C law13_parts_lv [true, true, false, true, false] law13_parts_b (law13_parts_s0 s k_ d out) (fnK law13_parts_C law13_parts_r law13_parts_hs Q) =
    (condP (decide (k_ < (32 : Int))) ((((0 : Int) ≤ (w64 ((64 : Int) * k_))) ∧ (((w64 ((64 : Int) * k_)) ≤ (w64 ((w64 ((64 : Int) * k_)) + (32 : Int)))) ∧ ((w64 ((w64 ((64 : Int) * k_)) + (32 : Int))) ≤ (((List.length s) : Nat) : Int)))) ∧ (((List.length (List.take ((Int.toNat (w64 ((w64 ((64 : Int) * k_)) + (32 : Int)))) - (Int.toNat (w64 ((64 : Int) * k_)))) (List.drop (Int.toNat (w64 ((64 : Int) * k_))) s))) ≤ (1099511627776 : Nat)) ∧ ((((0 : Int) ≤ (w64 ((w64 ((64 : Int) * k_)) + (32 : Int)))) ∧ (((w64 ((w64 ((64 : Int) * k_)) + (32 : Int))) ≤ (w64 ((w64 ((64 : Int) * k_)) + (64 : Int)))) ∧ ((w64 ((w64 ((64 : Int) * k_)) + (64 : Int))) ≤ (((List.length s) : Nat) : Int)))) ∧ (((List.length (List.take ((Int.toNat (w64 ((w64 ((64 : Int) * k_)) + (64 : Int)))) - (Int.toNat (w64 ((w64 ((64 : Int) * k_)) + (32 : Int))))) (List.drop (Int.toNat (w64 ((w64 ((64 : Int) * k_)) + (32 : Int)))) s))) ≤ (70368744177664 : Nat)) ∧ (condP (decide ((bitV d (UInt8.ofInt k_)) = (1 : UInt8))) (((((List.length (out ++ (List.take ((Int.toNat (w64 ((w64 ((64 : Int) * k_)) + (64 : Int)))) - (Int.toNat (w64 ((w64 ((64 : Int) * k_)) + (32 : Int))))) (List.drop (Int.toNat (w64 ((w64 ((64 : Int) * k_)) + (32 : Int)))) s)))) * (1 : Nat)) ≤ (70368744177664 : Nat)) ∧ ((List.length (out ++ (List.take ((Int.toNat (w64 ((w64 ((64 : Int) * k_)) + (64 : Int)))) - (Int.toNat (w64 ((w64 ((64 : Int) * k_)) + (32 : Int))))) (List.drop (Int.toNat (w64 ((w64 ((64 : Int) * k_)) + (32 : Int)))) s)))) ≤ (70368744177664 : Nat))) ∧ (((((List.length ((out ++ (List.take ((Int.toNat (w64 ((w64 ((64 : Int) * k_)) + (64 : Int)))) - (Int.toNat (w64 ((w64 ((64 : Int) * k_)) + (32 : Int))))) (List.drop (Int.toNat (w64 ((w64 ((64 : Int) * k_)) + (32 : Int)))) s))) ++ (Vector.toList (shaSum (List.take ((Int.toNat (w64 ((w64 ((64 : Int) * k_)) + (32 : Int)))) - (Int.toNat (w64 ((64 : Int) * k_)))) (List.drop (Int.toNat (w64 ((64 : Int) * k_))) s)))))) * (1 : Nat)) ≤ (70368744177664 : Nat)) ∧ ((List.length ((out ++ (List.take ((Int.toNat (w64 ((w64 ((64 : Int) * k_)) + (64 : Int)))) - (Int.toNat (w64 ((w64 ((64 : Int) * k_)) + (32 : Int))))) (List.drop (Int.toNat (w64 ((w64 ((64 : Int) * k_)) + (32 : Int)))) s))) ++ (Vector.toList (shaSum (List.take ((Int.toNat (w64 ((w64 ((64 : Int) * k_)) + (32 : Int)))) - (Int.toNat (w64 ((64 : Int) * k_)))) (List.drop (Int.toNat (w64 ((64 : Int) * k_))) s)))))) ≤ (70368744177664 : Nat))) ∧ (headP law13_parts_C law13_parts_lv [true, true, false, true, false] law13_parts_b (law13_parts_s0 s (w64 (k_ + (1 : Int))) d ((out ++ (List.take ((Int.toNat (w64 ((w64 ((64 : Int) * k_)) + (64 : Int)))) - (Int.toNat (w64 ((w64 ((64 : Int) * k_)) + (32 : Int))))) (List.drop (Int.toNat (w64 ((w64 ((64 : Int) * k_)) + (32 : Int)))) s))) ++ (Vector.toList (shaSum (List.take ((Int.toNat (w64 ((w64 ((64 : Int) * k_)) + (32 : Int)))) - (Int.toNat (w64 ((64 : Int) * k_)))) (List.drop (Int.toNat (w64 ((64 : Int) * k_))) s)))))) (fnK law13_parts_C law13_parts_r law13_parts_hs Q)))) (((((List.length (out ++ (Vector.toList (shaSum (List.take ((Int.toNat (w64 ((w64 ((64 : Int) * k_)) + (32 : Int)))) - (Int.toNat (w64 ((64 : Int) * k_)))) (List.drop (Int.toNat (w64 ((64 : Int) * k_))) s)))))) * (1 : Nat)) ≤ (70368744177664 : Nat)) ∧ ((List.length (out ++ (Vector.toList (shaSum (List.take ((Int.toNat (w64 ((w64 ((64 : Int) * k_)) + (32 : Int)))) - (Int.toNat (w64 ((64 : Int) * k_)))) (List.drop (Int.toNat (w64 ((64 : Int) * k_))) s)))))) ≤ (70368744177664 : Nat))) ∧ (((((List.length ((out ++ (Vector.toList (shaSum (List.take ((Int.toNat (w64 ((w64 ((64 : Int) * k_)) + (32 : Int)))) - (Int.toNat (w64 ((64 : Int) * k_)))) (List.drop (Int.toNat (w64 ((64 : Int) * k_))) s))))) ++ (List.take ((Int.toNat (w64 ((w64 ((64 : Int) * k_)) + (64 : Int)))) - (Int.toNat (w64 ((w64 ((64 : Int) * k_)) + (32 : Int))))) (List.drop (Int.toNat (w64 ((w64 ((64 : Int) * k_)) + (32 : Int)))) s)))) * (1 : Nat)) ≤ (70368744177664 : Nat)) ∧ ((List.length ((out ++ (Vector.toList (shaSum (List.take ((Int.toNat (w64 ((w64 ((64 : Int) * k_)) + (32 : Int)))) - (Int.toNat (w64 ((64 : Int) * k_)))) (List.drop (Int.toNat (w64 ((64 : Int) * k_))) s))))) ++ (List.take ((Int.toNat (w64 ((w64 ((64 : Int) * k_)) + (64 : Int)))) - (Int.toNat (w64 ((w64 ((64 : Int) * k_)) + (32 : Int))))) (List.drop (Int.toNat (w64 ((w64 ((64 : Int) * k_)) + (32 : Int)))) s)))) ≤ (70368744177664 : Nat))) ∧ (headP law13_parts_C law13_parts_lv [true, true, false, true, false] law13_parts_b (law13_parts_s0 s (w64 (k_ + (1 : Int))) d ((out ++ (Vector.toList (shaSum (List.take ((Int.toNat (w64 ((w64 ((64 : Int) * k_)) + (32 : Int)))) - (Int.toNat (w64 ((64 : Int) * k_)))) (List.drop (Int.toNat (w64 ((64 : Int) * k_))) s))))) ++ (List.take ((Int.toNat (w64 ((w64 ((64 : Int) * k_)) + (64 : Int)))) - (Int.toNat (w64 ((w64 ((64 : Int) * k_)) + (32 : Int))))) (List.drop (Int.toNat (w64 ((w64 ((64 : Int) * k_)) + (32 : Int)))) s)))) (fnK law13_parts_C law13_parts_r law13_parts_hs Q))))))))) (Q (law13_parts_enc out))) := by kernel_rfl
theorem law13_parts_k0 {r : List UInt8} {Q : CallOut → Prop} (hQ : Q (law13_parts_enc r)) : ∀ k : Nat, (∀ (s : List UInt8) (k_ : Int) (d : Vector UInt8 32) (out : List UInt8), law13_parts_h0 k s k_ d out = some r → headP law13_parts_C law13_parts_lv [true, true, false, true, false] law13_parts_b (law13_parts_s0 s k_ d out) (fnK law13_parts_C law13_parts_r law13_parts_hs Q))
  | 0 => fun _ _ _ _ h => no_ok h
  | k + 1 => fun s k_ d out h => headP_step (Eq.mpr (law13_parts_g0 s k_ d out Q) (have h := (law13_parts_h0_q k s k_ d out).symm.trans h; cond_ok h (fun h => ite_ok h fun hc0 h => ite_ok h fun hc1 h => ite_ok h fun hc2 h => ite_ok h fun hc3 h => cond_ok h (fun h => ite_ok h fun hc4 h => ite_ok h fun hc5 h => (law13_parts_k0 hQ k) _ _ _ _ h) (fun h => ite_ok h fun hc4 h => ite_ok h fun hc5 h => (law13_parts_k0 hQ k) _ _ _ _ h)) (fun h => ret_ok (Q := Q) (e := law13_parts_enc) h hQ)))
theorem law13_parts_e (d : Vector UInt8 32) (s : List UInt8) (Q : CallOut → Prop) : evalFnP law13_parts_C law13_parts_lv law13_parts_r law13_parts_hs law13_parts_b [.pv (.arr .u8 32 d), .pv (.sl .u8 s)] [] Q =
    (headP law13_parts_C law13_parts_lv [true, true, false, true, false] law13_parts_b (law13_parts_s0 s (0 : Int) d ([] : List UInt8)) (fnK law13_parts_C law13_parts_r law13_parts_hs Q)) := by kernel_rfl
theorem law13_parts_w {k : Nat} (d : Vector UInt8 32) (s : List UInt8) {r} {Q : CallOut → Prop} (h : law13_parts k d s = some r) (hQ : Q (law13_parts_enc r)) : evalFnP law13_parts_C law13_parts_lv law13_parts_r law13_parts_hs law13_parts_b [.pv (.arr .u8 32 d), .pv (.sl .u8 s)] [] Q :=
  Eq.mpr (law13_parts_e d s Q) (have h := (law13_parts_q k d s).symm.trans h; (law13_parts_k0 hQ _) _ _ _ _ h)
def law13_parts_c : Ans
  | [.pv (.arr .u8 32 d), .pv (.sl .u8 s)], [] => some (some (s.length = 2048), law13_parts_enc (partsV d s))
  | _, _ => none
theorem law13_parts_tok : TblOK Tryd.prog theG law13_parts_T := .cons ⟨by kernel_rfl, ref02_Sum_ok⟩ (.cons ⟨by kernel_rfl, ref02_List_ok⟩ (.cons ⟨by kernel_rfl, ref00_Copy_ok⟩ (.cons ⟨by kernel_rfl, ref13_Bit_ok⟩ (.nil))))
theorem law13_parts_ok : FnOK Tryd.prog theG 47 (unW law13_parts_c) := by
  refine FnOK.ofC (T := law13_parts_T) (nt := 45) (np := 0) (mv := []) (nf := false) (hs := law13_parts_hs) (fn := Tryd.f47) (body := law13_parts_b) law13_parts_tok (by kernel_rfl) (by kernel_rfl) (by kernel_rfl) (by kernel_rfl) (c := law13_parts_c) (lv := law13_parts_lv) ?_
  intro xs mem p out h hp
  unfold law13_parts_c at h
  split at h
  · cases h
    obtain ⟨k, hk⟩ := law13_parts_spec _ _ hp
    exact law13_parts_w _ _ hk rfl
  · cases h
end
end Go.Proofs.YtkjillpcmffgoaaDoor.M
