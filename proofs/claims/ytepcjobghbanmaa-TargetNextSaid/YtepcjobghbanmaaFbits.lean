/- Part of the proofs: what functions of the program do: plain functions, and the walks that show it. No condition. -/
import Derived.KernelRfl
import Derived.Test.YtepcjobghbanmaaProg
import Derived.Test.YtepcjobghbanmaaLd
import Derived.Test.YtepcjobghbanmaaSwords
import Derived.Test.YtepcjobghbanmaaSbigS
import Derived.Test.YtepcjobghbanmaaScellS
set_option linter.unusedVariables false
set_option linter.unusedSimpArgs false
set_option autoImplicit false
namespace Go.Proofs.Ytepcjobghbanmaa.M
open Go
noncomputable section
def bits_Len64_tab0 : List UInt8 := Array.toList (ByteArray.data (ByteArray.mk (List.toArray (List.append (List.append ([(0 : UInt8), (1 : UInt8), (2 : UInt8), (2 : UInt8), (3 : UInt8), (3 : UInt8), (3 : UInt8), (3 : UInt8), (4 : UInt8), (4 : UInt8), (4 : UInt8), (4 : UInt8), (4 : UInt8), (4 : UInt8), (4 : UInt8), (4 : UInt8), (5 : UInt8), (5 : UInt8), (5 : UInt8), (5 : UInt8), (5 : UInt8), (5 : UInt8), (5 : UInt8), (5 : UInt8), (5 : UInt8), (5 : UInt8), (5 : UInt8), (5 : UInt8), (5 : UInt8), (5 : UInt8), (5 : UInt8), (5 : UInt8), (6 : UInt8), (6 : UInt8), (6 : UInt8), (6 : UInt8), (6 : UInt8), (6 : UInt8), (6 : UInt8), (6 : UInt8), (6 : UInt8), (6 : UInt8), (6 : UInt8), (6 : UInt8), (6 : UInt8), (6 : UInt8), (6 : UInt8), (6 : UInt8), (6 : UInt8), (6 : UInt8), (6 : UInt8), (6 : UInt8), (6 : UInt8), (6 : UInt8), (6 : UInt8), (6 : UInt8), (6 : UInt8), (6 : UInt8), (6 : UInt8), (6 : UInt8), (6 : UInt8), (6 : UInt8), (6 : UInt8), (6 : UInt8)] : List UInt8) ([(7 : UInt8), (7 : UInt8), (7 : UInt8), (7 : UInt8), (7 : UInt8), (7 : UInt8), (7 : UInt8), (7 : UInt8), (7 : UInt8), (7 : UInt8), (7 : UInt8), (7 : UInt8), (7 : UInt8), (7 : UInt8), (7 : UInt8), (7 : UInt8), (7 : UInt8), (7 : UInt8), (7 : UInt8), (7 : UInt8), (7 : UInt8), (7 : UInt8), (7 : UInt8), (7 : UInt8), (7 : UInt8), (7 : UInt8), (7 : UInt8), (7 : UInt8), (7 : UInt8), (7 : UInt8), (7 : UInt8), (7 : UInt8), (7 : UInt8), (7 : UInt8), (7 : UInt8), (7 : UInt8), (7 : UInt8), (7 : UInt8), (7 : UInt8), (7 : UInt8), (7 : UInt8), (7 : UInt8), (7 : UInt8), (7 : UInt8), (7 : UInt8), (7 : UInt8), (7 : UInt8), (7 : UInt8), (7 : UInt8), (7 : UInt8), (7 : UInt8), (7 : UInt8), (7 : UInt8), (7 : UInt8), (7 : UInt8), (7 : UInt8), (7 : UInt8), (7 : UInt8), (7 : UInt8), (7 : UInt8), (7 : UInt8), (7 : UInt8), (7 : UInt8), (7 : UInt8)] : List UInt8)) (List.append ([(8 : UInt8), (8 : UInt8), (8 : UInt8), (8 : UInt8), (8 : UInt8), (8 : UInt8), (8 : UInt8), (8 : UInt8), (8 : UInt8), (8 : UInt8), (8 : UInt8), (8 : UInt8), (8 : UInt8), (8 : UInt8), (8 : UInt8), (8 : UInt8), (8 : UInt8), (8 : UInt8), (8 : UInt8), (8 : UInt8), (8 : UInt8), (8 : UInt8), (8 : UInt8), (8 : UInt8), (8 : UInt8), (8 : UInt8), (8 : UInt8), (8 : UInt8), (8 : UInt8), (8 : UInt8), (8 : UInt8), (8 : UInt8), (8 : UInt8), (8 : UInt8), (8 : UInt8), (8 : UInt8), (8 : UInt8), (8 : UInt8), (8 : UInt8), (8 : UInt8), (8 : UInt8), (8 : UInt8), (8 : UInt8), (8 : UInt8), (8 : UInt8), (8 : UInt8), (8 : UInt8), (8 : UInt8), (8 : UInt8), (8 : UInt8), (8 : UInt8), (8 : UInt8), (8 : UInt8), (8 : UInt8), (8 : UInt8), (8 : UInt8), (8 : UInt8), (8 : UInt8), (8 : UInt8), (8 : UInt8), (8 : UInt8), (8 : UInt8), (8 : UInt8), (8 : UInt8)] : List UInt8) ([(8 : UInt8), (8 : UInt8), (8 : UInt8), (8 : UInt8), (8 : UInt8), (8 : UInt8), (8 : UInt8), (8 : UInt8), (8 : UInt8), (8 : UInt8), (8 : UInt8), (8 : UInt8), (8 : UInt8), (8 : UInt8), (8 : UInt8), (8 : UInt8), (8 : UInt8), (8 : UInt8), (8 : UInt8), (8 : UInt8), (8 : UInt8), (8 : UInt8), (8 : UInt8), (8 : UInt8), (8 : UInt8), (8 : UInt8), (8 : UInt8), (8 : UInt8), (8 : UInt8), (8 : UInt8), (8 : UInt8), (8 : UInt8), (8 : UInt8), (8 : UInt8), (8 : UInt8), (8 : UInt8), (8 : UInt8), (8 : UInt8), (8 : UInt8), (8 : UInt8), (8 : UInt8), (8 : UInt8), (8 : UInt8), (8 : UInt8), (8 : UInt8), (8 : UInt8), (8 : UInt8), (8 : UInt8), (8 : UInt8), (8 : UInt8), (8 : UInt8), (8 : UInt8), (8 : UInt8), (8 : UInt8), (8 : UInt8), (8 : UInt8), (8 : UInt8), (8 : UInt8), (8 : UInt8), (8 : UInt8), (8 : UInt8), (8 : UInt8), (8 : UInt8), (8 : UInt8)] : List UInt8))))))
/-- math/bits.Len64 -/
def bits_Len64 (x_0 : UInt64) : Option (Int) :=
  bif decide ((4294967296 : UInt64) ≤ x_0) then (bif decide ((65536 : UInt64) ≤ (shr_u64 x_0 (32 : Nat))) then (bif decide ((256 : UInt64) ≤ (shr_u64 (shr_u64 x_0 (32 : Nat)) (16 : Nat))) then (if ((0 : Int) ≤ (((UInt8.toNat (UInt64.toUInt8 (shr_u64 (shr_u64 (shr_u64 x_0 (32 : Nat)) (16 : Nat)) (8 : Nat)))) : Nat) : Int)) ∧ ((((UInt8.toNat (UInt64.toUInt8 (shr_u64 (shr_u64 (shr_u64 x_0 (32 : Nat)) (16 : Nat)) (8 : Nat)))) : Nat) : Int) < (((List.length (bits_Len64_tab0)) : Nat) : Int)) then
          some (w64 ((56 : Int) + (((UInt8.toNat (List.getD (bits_Len64_tab0) (Int.toNat (((UInt8.toNat (UInt64.toUInt8 (shr_u64 (shr_u64 (shr_u64 x_0 (32 : Nat)) (16 : Nat)) (8 : Nat)))) : Nat) : Int)) (0 : UInt8))) : Nat) : Int)))
        else none)
        else (if ((0 : Int) ≤ (((UInt8.toNat (UInt64.toUInt8 (shr_u64 (shr_u64 x_0 (32 : Nat)) (16 : Nat)))) : Nat) : Int)) ∧ ((((UInt8.toNat (UInt64.toUInt8 (shr_u64 (shr_u64 x_0 (32 : Nat)) (16 : Nat)))) : Nat) : Int) < (((List.length (bits_Len64_tab0)) : Nat) : Int)) then
          some (w64 ((48 : Int) + (((UInt8.toNat (List.getD (bits_Len64_tab0) (Int.toNat (((UInt8.toNat (UInt64.toUInt8 (shr_u64 (shr_u64 x_0 (32 : Nat)) (16 : Nat)))) : Nat) : Int)) (0 : UInt8))) : Nat) : Int)))
        else none))
      else (bif decide ((256 : UInt64) ≤ (shr_u64 x_0 (32 : Nat))) then (if ((0 : Int) ≤ (((UInt8.toNat (UInt64.toUInt8 (shr_u64 (shr_u64 x_0 (32 : Nat)) (8 : Nat)))) : Nat) : Int)) ∧ ((((UInt8.toNat (UInt64.toUInt8 (shr_u64 (shr_u64 x_0 (32 : Nat)) (8 : Nat)))) : Nat) : Int) < (((List.length (bits_Len64_tab0)) : Nat) : Int)) then
          some (w64 ((40 : Int) + (((UInt8.toNat (List.getD (bits_Len64_tab0) (Int.toNat (((UInt8.toNat (UInt64.toUInt8 (shr_u64 (shr_u64 x_0 (32 : Nat)) (8 : Nat)))) : Nat) : Int)) (0 : UInt8))) : Nat) : Int)))
        else none)
        else (if ((0 : Int) ≤ (((UInt8.toNat (UInt64.toUInt8 (shr_u64 x_0 (32 : Nat)))) : Nat) : Int)) ∧ ((((UInt8.toNat (UInt64.toUInt8 (shr_u64 x_0 (32 : Nat)))) : Nat) : Int) < (((List.length (bits_Len64_tab0)) : Nat) : Int)) then
          some (w64 ((32 : Int) + (((UInt8.toNat (List.getD (bits_Len64_tab0) (Int.toNat (((UInt8.toNat (UInt64.toUInt8 (shr_u64 x_0 (32 : Nat)))) : Nat) : Int)) (0 : UInt8))) : Nat) : Int)))
        else none)))
    else (bif decide ((65536 : UInt64) ≤ x_0) then (bif decide ((256 : UInt64) ≤ (shr_u64 x_0 (16 : Nat))) then (if ((0 : Int) ≤ (((UInt8.toNat (UInt64.toUInt8 (shr_u64 (shr_u64 x_0 (16 : Nat)) (8 : Nat)))) : Nat) : Int)) ∧ ((((UInt8.toNat (UInt64.toUInt8 (shr_u64 (shr_u64 x_0 (16 : Nat)) (8 : Nat)))) : Nat) : Int) < (((List.length (bits_Len64_tab0)) : Nat) : Int)) then
          some (w64 ((24 : Int) + (((UInt8.toNat (List.getD (bits_Len64_tab0) (Int.toNat (((UInt8.toNat (UInt64.toUInt8 (shr_u64 (shr_u64 x_0 (16 : Nat)) (8 : Nat)))) : Nat) : Int)) (0 : UInt8))) : Nat) : Int)))
        else none)
        else (if ((0 : Int) ≤ (((UInt8.toNat (UInt64.toUInt8 (shr_u64 x_0 (16 : Nat)))) : Nat) : Int)) ∧ ((((UInt8.toNat (UInt64.toUInt8 (shr_u64 x_0 (16 : Nat)))) : Nat) : Int) < (((List.length (bits_Len64_tab0)) : Nat) : Int)) then
          some (w64 ((16 : Int) + (((UInt8.toNat (List.getD (bits_Len64_tab0) (Int.toNat (((UInt8.toNat (UInt64.toUInt8 (shr_u64 x_0 (16 : Nat)))) : Nat) : Int)) (0 : UInt8))) : Nat) : Int)))
        else none))
      else (bif decide ((256 : UInt64) ≤ x_0) then (if ((0 : Int) ≤ (((UInt8.toNat (UInt64.toUInt8 (shr_u64 x_0 (8 : Nat)))) : Nat) : Int)) ∧ ((((UInt8.toNat (UInt64.toUInt8 (shr_u64 x_0 (8 : Nat)))) : Nat) : Int) < (((List.length (bits_Len64_tab0)) : Nat) : Int)) then
          some (w64 ((8 : Int) + (((UInt8.toNat (List.getD (bits_Len64_tab0) (Int.toNat (((UInt8.toNat (UInt64.toUInt8 (shr_u64 x_0 (8 : Nat)))) : Nat) : Int)) (0 : UInt8))) : Nat) : Int)))
        else none)
        else (if ((0 : Int) ≤ (((UInt8.toNat (UInt64.toUInt8 x_0)) : Nat) : Int)) ∧ ((((UInt8.toNat (UInt64.toUInt8 x_0)) : Nat) : Int) < (((List.length (bits_Len64_tab0)) : Nat) : Int)) then
          some (w64 ((0 : Int) + (((UInt8.toNat (List.getD (bits_Len64_tab0) (Int.toNat (((UInt8.toNat (UInt64.toUInt8 x_0)) : Nat) : Int)) (0 : UInt8))) : Nat) : Int)))
        else none)))
theorem bits_Len64_q (x_0 : UInt64) : bits_Len64 x_0 = (bif decide ((4294967296 : UInt64) ≤ x_0) then (bif decide ((65536 : UInt64) ≤ (shr_u64 x_0 (32 : Nat))) then (bif decide ((256 : UInt64) ≤ (shr_u64 (shr_u64 x_0 (32 : Nat)) (16 : Nat))) then (if ((0 : Int) ≤ (((UInt8.toNat (UInt64.toUInt8 (shr_u64 (shr_u64 (shr_u64 x_0 (32 : Nat)) (16 : Nat)) (8 : Nat)))) : Nat) : Int)) ∧ ((((UInt8.toNat (UInt64.toUInt8 (shr_u64 (shr_u64 (shr_u64 x_0 (32 : Nat)) (16 : Nat)) (8 : Nat)))) : Nat) : Int) < (((List.length (bits_Len64_tab0)) : Nat) : Int)) then
          some (w64 ((56 : Int) + (((UInt8.toNat (List.getD (bits_Len64_tab0) (Int.toNat (((UInt8.toNat (UInt64.toUInt8 (shr_u64 (shr_u64 (shr_u64 x_0 (32 : Nat)) (16 : Nat)) (8 : Nat)))) : Nat) : Int)) (0 : UInt8))) : Nat) : Int)))
        else none)
        else (if ((0 : Int) ≤ (((UInt8.toNat (UInt64.toUInt8 (shr_u64 (shr_u64 x_0 (32 : Nat)) (16 : Nat)))) : Nat) : Int)) ∧ ((((UInt8.toNat (UInt64.toUInt8 (shr_u64 (shr_u64 x_0 (32 : Nat)) (16 : Nat)))) : Nat) : Int) < (((List.length (bits_Len64_tab0)) : Nat) : Int)) then
          some (w64 ((48 : Int) + (((UInt8.toNat (List.getD (bits_Len64_tab0) (Int.toNat (((UInt8.toNat (UInt64.toUInt8 (shr_u64 (shr_u64 x_0 (32 : Nat)) (16 : Nat)))) : Nat) : Int)) (0 : UInt8))) : Nat) : Int)))
        else none))
      else (bif decide ((256 : UInt64) ≤ (shr_u64 x_0 (32 : Nat))) then (if ((0 : Int) ≤ (((UInt8.toNat (UInt64.toUInt8 (shr_u64 (shr_u64 x_0 (32 : Nat)) (8 : Nat)))) : Nat) : Int)) ∧ ((((UInt8.toNat (UInt64.toUInt8 (shr_u64 (shr_u64 x_0 (32 : Nat)) (8 : Nat)))) : Nat) : Int) < (((List.length (bits_Len64_tab0)) : Nat) : Int)) then
          some (w64 ((40 : Int) + (((UInt8.toNat (List.getD (bits_Len64_tab0) (Int.toNat (((UInt8.toNat (UInt64.toUInt8 (shr_u64 (shr_u64 x_0 (32 : Nat)) (8 : Nat)))) : Nat) : Int)) (0 : UInt8))) : Nat) : Int)))
        else none)
        else (if ((0 : Int) ≤ (((UInt8.toNat (UInt64.toUInt8 (shr_u64 x_0 (32 : Nat)))) : Nat) : Int)) ∧ ((((UInt8.toNat (UInt64.toUInt8 (shr_u64 x_0 (32 : Nat)))) : Nat) : Int) < (((List.length (bits_Len64_tab0)) : Nat) : Int)) then
          some (w64 ((32 : Int) + (((UInt8.toNat (List.getD (bits_Len64_tab0) (Int.toNat (((UInt8.toNat (UInt64.toUInt8 (shr_u64 x_0 (32 : Nat)))) : Nat) : Int)) (0 : UInt8))) : Nat) : Int)))
        else none)))
    else (bif decide ((65536 : UInt64) ≤ x_0) then (bif decide ((256 : UInt64) ≤ (shr_u64 x_0 (16 : Nat))) then (if ((0 : Int) ≤ (((UInt8.toNat (UInt64.toUInt8 (shr_u64 (shr_u64 x_0 (16 : Nat)) (8 : Nat)))) : Nat) : Int)) ∧ ((((UInt8.toNat (UInt64.toUInt8 (shr_u64 (shr_u64 x_0 (16 : Nat)) (8 : Nat)))) : Nat) : Int) < (((List.length (bits_Len64_tab0)) : Nat) : Int)) then
          some (w64 ((24 : Int) + (((UInt8.toNat (List.getD (bits_Len64_tab0) (Int.toNat (((UInt8.toNat (UInt64.toUInt8 (shr_u64 (shr_u64 x_0 (16 : Nat)) (8 : Nat)))) : Nat) : Int)) (0 : UInt8))) : Nat) : Int)))
        else none)
        else (if ((0 : Int) ≤ (((UInt8.toNat (UInt64.toUInt8 (shr_u64 x_0 (16 : Nat)))) : Nat) : Int)) ∧ ((((UInt8.toNat (UInt64.toUInt8 (shr_u64 x_0 (16 : Nat)))) : Nat) : Int) < (((List.length (bits_Len64_tab0)) : Nat) : Int)) then
          some (w64 ((16 : Int) + (((UInt8.toNat (List.getD (bits_Len64_tab0) (Int.toNat (((UInt8.toNat (UInt64.toUInt8 (shr_u64 x_0 (16 : Nat)))) : Nat) : Int)) (0 : UInt8))) : Nat) : Int)))
        else none))
      else (bif decide ((256 : UInt64) ≤ x_0) then (if ((0 : Int) ≤ (((UInt8.toNat (UInt64.toUInt8 (shr_u64 x_0 (8 : Nat)))) : Nat) : Int)) ∧ ((((UInt8.toNat (UInt64.toUInt8 (shr_u64 x_0 (8 : Nat)))) : Nat) : Int) < (((List.length (bits_Len64_tab0)) : Nat) : Int)) then
          some (w64 ((8 : Int) + (((UInt8.toNat (List.getD (bits_Len64_tab0) (Int.toNat (((UInt8.toNat (UInt64.toUInt8 (shr_u64 x_0 (8 : Nat)))) : Nat) : Int)) (0 : UInt8))) : Nat) : Int)))
        else none)
        else (if ((0 : Int) ≤ (((UInt8.toNat (UInt64.toUInt8 x_0)) : Nat) : Int)) ∧ ((((UInt8.toNat (UInt64.toUInt8 x_0)) : Nat) : Int) < (((List.length (bits_Len64_tab0)) : Nat) : Int)) then
          some (w64 ((0 : Int) + (((UInt8.toNat (List.getD (bits_Len64_tab0) (Int.toNat (((UInt8.toNat (UInt64.toUInt8 x_0)) : Nat) : Int)) (0 : UInt8))) : Nat) : Int)))
        else none)))) := by kernel_rfl
theorem bits_Len64_tabL : bits_Len64_tab0.length = 256 := by decide +kernel
theorem bits_Len64_tabG0 : ∀ b : Fin 256, ((List.getD bits_Len64_tab0 b.val 0).toNat) = (if b.val = 0 then 0 else Nat.log2 b.val + 1) := by decide +kernel
theorem bits_Len64_tabG (b : Fin 256) : ((List.getD bits_Len64_tab0 b.val 0).toNat) = lenN b.val := by rw [lenN_eq]; exact bits_Len64_tabG0 b
theorem bits_Len64_leaf (y : UInt64) (n : Nat) (x c : Nat) (hy : y.toNat = x / 2 ^ c) (hx : x / 2 ^ c < 256) (hn : x / 2 ^ c ≠ 0 ∨ c = 0) (hc : c ≤ 56) :
    (if ((0 : Int) ≤ (((UInt8.toNat (UInt64.toUInt8 y)) : Nat) : Int)) ∧ ((((UInt8.toNat (UInt64.toUInt8 y)) : Nat) : Int) < (((List.length (bits_Len64_tab0)) : Nat) : Int)) then
      some (w64 (((c : Nat) : Int) + (((UInt8.toNat (List.getD (bits_Len64_tab0) (Int.toNat (((UInt8.toNat (UInt64.toUInt8 y)) : Nat) : Int)) (0 : UInt8))) : Nat) : Int))) else none) = some (((lenN x : Nat) : Int)) := by
  have e : (UInt64.toUInt8 y).toNat = x / 2 ^ c := by
    rw [UInt64.toNat_toUInt8, hy]; omega
  rw [e, bits_Len64_tabL, if_pos (by omega), Int.toNat_natCast, bits_Len64_tabG ⟨x / 2 ^ c, hx⟩]
  show some (w64 (((c : Nat) : Int) + ((lenN (x / 2 ^ c) : Nat) : Int))) = _
  have hl : lenN (x / 2 ^ c) ≤ 8 := lenN_le.2 hx
  have e2 : lenN x = lenN (x / 2 ^ c) + c := by
    by_cases h0 : c = 0
    · subst h0; rw [Nat.pow_zero, Nat.div_one]; rfl
    · exact lenN_shift c (by rcases hn with h | h; exact h; exact absurd h h0)
  rw [w64_id (by omega) (by omega), e2]
  refine congrArg some ?_
  omega
theorem bits_Len64_spec (x : UInt64) : bits_Len64 x = some (((lenN x.toNat : Nat) : Int)) := by
  have hx := x.toNat_lt
  have s32 : (shr_u64 x 32).toNat = x.toNat / 2 ^ 32 := shr_val _ _ (by omega)
  have s16 : (shr_u64 x 16).toNat = x.toNat / 2 ^ 16 := shr_val _ _ (by omega)
  have s8 : (shr_u64 x 8).toNat = x.toNat / 2 ^ 8 := shr_val _ _ (by omega)
  have s48 : (shr_u64 (shr_u64 x 32) 16).toNat = x.toNat / 2 ^ 48 := by rw [shr_val _ _ (by omega), s32, Nat.div_div_eq_div_mul]
  have s40 : (shr_u64 (shr_u64 x 32) 8).toNat = x.toNat / 2 ^ 40 := by rw [shr_val _ _ (by omega), s32, Nat.div_div_eq_div_mul]
  have s24 : (shr_u64 (shr_u64 x 16) 8).toNat = x.toNat / 2 ^ 24 := by rw [shr_val _ _ (by omega), s16, Nat.div_div_eq_div_mul]
  have s56 : (shr_u64 (shr_u64 (shr_u64 x 32) 16) 8).toNat = x.toNat / 2 ^ 56 := by rw [shr_val _ _ (by omega), s48, Nat.div_div_eq_div_mul]
  have le : ∀ (y : UInt64) (n : Nat) (h : n < 18446744073709551616), (UInt64.ofNat n ≤ y) ↔ n ≤ y.toNat := by
    intro y n h
    rw [UInt64.le_iff_toNat_le, UInt64.toNat_ofNat', Nat.mod_eq_of_lt h]
  have l32 : ∀ y : UInt64, ((4294967296 : UInt64) ≤ y) ↔ 4294967296 ≤ y.toNat := fun y => le y 4294967296 (by omega)
  have l16 : ∀ y : UInt64, ((65536 : UInt64) ≤ y) ↔ 65536 ≤ y.toNat := fun y => le y 65536 (by omega)
  have l8 : ∀ y : UInt64, ((256 : UInt64) ≤ y) ↔ 256 ≤ y.toNat := fun y => le y 256 (by omega)
  rw [bits_Len64_q]
  by_cases c1 : (4294967296 : UInt64) ≤ x
  · rw [bif_pos c1]
    rw [l32] at c1
    by_cases c2 : (65536 : UInt64) ≤ shr_u64 x 32
    · rw [bif_pos c2]
      rw [l16, s32] at c2
      by_cases c3 : (256 : UInt64) ≤ shr_u64 (shr_u64 x 32) 16
      · rw [bif_pos c3]
        rw [l8, s48] at c3
        exact bits_Len64_leaf _ 0 _ 56 s56 (by omega) (by omega) (by omega)
      · rw [bif_neg c3]
        rw [l8, s48] at c3
        exact bits_Len64_leaf _ 0 _ 48 s48 (by omega) (by omega) (by omega)
    · rw [bif_neg c2]
      rw [l16, s32] at c2
      by_cases c3 : (256 : UInt64) ≤ shr_u64 x 32
      · rw [bif_pos c3]
        rw [l8, s32] at c3
        exact bits_Len64_leaf _ 0 _ 40 s40 (by omega) (by omega) (by omega)
      · rw [bif_neg c3]
        rw [l8, s32] at c3
        exact bits_Len64_leaf _ 0 _ 32 s32 (by omega) (by omega) (by omega)
  · rw [bif_neg c1]
    rw [l32] at c1
    by_cases c2 : (65536 : UInt64) ≤ x
    · rw [bif_pos c2]
      rw [l16] at c2
      by_cases c3 : (256 : UInt64) ≤ shr_u64 x 16
      · rw [bif_pos c3]
        rw [l8, s16] at c3
        exact bits_Len64_leaf _ 0 _ 24 s24 (by omega) (by omega) (by omega)
      · rw [bif_neg c3]
        rw [l8, s16] at c3
        exact bits_Len64_leaf _ 0 _ 16 s16 (by omega) (by omega) (by omega)
    · rw [bif_neg c2]
      rw [l16] at c2
      by_cases c3 : (256 : UInt64) ≤ x
      · rw [bif_pos c3]
        rw [l8] at c3
        exact bits_Len64_leaf _ 0 _ 8 s8 (by omega) (by omega) (by omega)
      · rw [bif_neg c3]
        rw [l8] at c3
        exact bits_Len64_leaf x 0 x.toNat 0 (by rw [Nat.pow_zero, Nat.div_one]) (by omega) (by omega) (by omega)

end
end Go.Proofs.Ytepcjobghbanmaa.M

namespace Go.Proofs.Ytepcjobghbanmaa.M
open Go
noncomputable section
/-- math/bits.Mul64 -/
def bits_Mul64 (x_0 : UInt64) (y : UInt64) : UInt64 × UInt64 :=
  (((((shr_u64 x_0 (32 : Nat)) * (shr_u64 y (32 : Nat))) + (shr_u64 (((shr_u64 x_0 (32 : Nat)) * (y &&& (4294967295 : UInt64))) + (shr_u64 ((x_0 &&& (4294967295 : UInt64)) * (y &&& (4294967295 : UInt64))) (32 : Nat))) (32 : Nat))) + (shr_u64 (((((shr_u64 x_0 (32 : Nat)) * (y &&& (4294967295 : UInt64))) + (shr_u64 ((x_0 &&& (4294967295 : UInt64)) * (y &&& (4294967295 : UInt64))) (32 : Nat))) &&& (4294967295 : UInt64)) + ((x_0 &&& (4294967295 : UInt64)) * (shr_u64 y (32 : Nat)))) (32 : Nat))), (x_0 * y))
theorem bits_Mul64_q (x_0 : UInt64) (y : UInt64) : bits_Mul64 x_0 y = ((((((shr_u64 x_0 (32 : Nat)) * (shr_u64 y (32 : Nat))) + (shr_u64 (((shr_u64 x_0 (32 : Nat)) * (y &&& (4294967295 : UInt64))) + (shr_u64 ((x_0 &&& (4294967295 : UInt64)) * (y &&& (4294967295 : UInt64))) (32 : Nat))) (32 : Nat))) + (shr_u64 (((((shr_u64 x_0 (32 : Nat)) * (y &&& (4294967295 : UInt64))) + (shr_u64 ((x_0 &&& (4294967295 : UInt64)) * (y &&& (4294967295 : UInt64))) (32 : Nat))) &&& (4294967295 : UInt64)) + ((x_0 &&& (4294967295 : UInt64)) * (shr_u64 y (32 : Nat)))) (32 : Nat))), (x_0 * y))) := by kernel_rfl
theorem bits_Mul64_spec (x y : UInt64) : bits_Mul64 x y = (mulHi x y, mulLo x y) := by
  have hx : x.toNat < 2 ^ 64 := x.toNat_lt
  have hy : y.toNat < 2 ^ 64 := y.toNat_lt
  have lo : ∀ z : UInt64, (z &&& 4294967295).toNat = z.toNat % 4294967296 := by
    intro z
    rw [UInt64.toNat_and]
    exact Nat.and_two_pow_sub_one_eq_mod z.toNat 32
  have hi : ∀ z : UInt64, (shr_u64 z 32).toNat = z.toNat / 4294967296 := by
    intro z
    have := z.toNat_lt
    unfold shr_u64
    rw [UInt64.toNat_ofNat', show min 32 64 = 32 from rfl]
    omega
  unfold bits_Mul64 mulHi mulLo
  rw [lock_eq, lock_eq]
  refine Prod.ext ?_ rfl
  apply UInt64.toNat_inj.1
  simp only [UInt64.toNat_add, UInt64.toNat_mul, lo, hi, UInt64.toNat_ofNat']
  generalize x.toNat = a at *
  generalize y.toNat = b at *
  have e : a * b = (a / 4294967296) * (b / 4294967296) * 18446744073709551616 + ((a / 4294967296) * (b % 4294967296) + (a % 4294967296) * (b / 4294967296)) * 4294967296 + (a % 4294967296) * (b % 4294967296) := by
    have e1 : a = (a / 4294967296) * 4294967296 + a % 4294967296 := by omega
    have e2 : b = (b / 4294967296) * 4294967296 + b % 4294967296 := by omega
    generalize a / 4294967296 = ah at *
    generalize a % 4294967296 = al at *
    generalize b / 4294967296 = bh at *
    generalize b % 4294967296 = bl at *
    subst e1 e2
    grind
  have b1 : a / 4294967296 ≤ 4294967295 := by omega
  have b2 : a % 4294967296 ≤ 4294967295 := by omega
  have b3 : b / 4294967296 ≤ 4294967295 := by omega
  have b4 : b % 4294967296 ≤ 4294967295 := by omega
  rw [e]
  generalize a / 4294967296 = ah at *
  generalize a % 4294967296 = al at *
  generalize b / 4294967296 = bh at *
  generalize b % 4294967296 = bl at *
  have p1 := Nat.mul_le_mul b1 b3
  have p2 := Nat.mul_le_mul b1 b4
  have p3 := Nat.mul_le_mul b2 b3
  have p4 := Nat.mul_le_mul b2 b4
  generalize ah * bh = s at *
  generalize ah * bl = q at *
  generalize al * bh = r at *
  generalize al * bl = p at *
  omega

end
end Go.Proofs.Ytepcjobghbanmaa.M

namespace Go.Proofs.Ytepcjobghbanmaa.M
open Go
noncomputable section
/-- math/bits.LeadingZeros64 -/
def bits_LeadingZeros64 (x_0 : UInt64) : Int :=
  (w64 ((64 : Int) - (((lenN (UInt64.toNat x_0)) : Nat) : Int)))
theorem bits_LeadingZeros64_q (x_0 : UInt64) : bits_LeadingZeros64 x_0 = ((w64 ((64 : Int) - (((lenN (UInt64.toNat x_0)) : Nat) : Int)))) := by kernel_rfl
theorem bits_LeadingZeros64_spec (x : UInt64) : bits_LeadingZeros64 x = (((64 - lenN x.toNat : Nat) : Nat) : Int) := by
  have := lenN_le64 x
  unfold bits_LeadingZeros64
  rw [w64_id (by omega) (by omega)]
  omega

end
end Go.Proofs.Ytepcjobghbanmaa.M

namespace Go.Proofs.Ytepcjobghbanmaa.M
open Go
noncomputable section
/-- the loop 2 of math/bits.Div64 -/
def bits_Div64_h2 : Nat → UInt64 → UInt64 → UInt64 → UInt64 → UInt64 → UInt64 → UInt64 → UInt64 → UInt64 → Option (UInt64 × UInt64)
  | 0, _, _, _, _, _, _, _, _, _ => none
  | k + 1, y, s, yn1, yn0, un0, q1, rhat, un21, q0 => bif eqb (decide ((4294967296 : UInt64) ≤ q0)) false then (bif bif false then true else (decide ((((4294967296 : UInt64) * rhat) + un0) < (q0 * yn0))) then (bif decide ((4294967296 : UInt64) ≤ (rhat + yn1)) then (some (((q1 * (4294967296 : UInt64)) + (q0 - (1 : UInt64))), (shr_u64 (((un21 * (4294967296 : UInt64)) + un0) - ((q0 - (1 : UInt64)) * y)) (UInt64.toNat s))))
          else (bits_Div64_h2 k y s yn1 yn0 un0 q1 (rhat + yn1) un21 (q0 - (1 : UInt64))))
        else (some (((q1 * (4294967296 : UInt64)) + q0), (shr_u64 (((un21 * (4294967296 : UInt64)) + un0) - (q0 * y)) (UInt64.toNat s)))))
      else (bif decide ((4294967296 : UInt64) ≤ (rhat + yn1)) then (some (((q1 * (4294967296 : UInt64)) + (q0 - (1 : UInt64))), (shr_u64 (((un21 * (4294967296 : UInt64)) + un0) - ((q0 - (1 : UInt64)) * y)) (UInt64.toNat s))))
        else (bits_Div64_h2 k y s yn1 yn0 un0 q1 (rhat + yn1) un21 (q0 - (1 : UInt64))))
theorem bits_Div64_h2_q (k : Nat) (y : UInt64) (s : UInt64) (yn1 : UInt64) (yn0 : UInt64) (un0 : UInt64) (q1 : UInt64) (rhat : UInt64) (un21 : UInt64) (q0 : UInt64) : bits_Div64_h2 (k + 1) y s yn1 yn0 un0 q1 rhat un21 q0 =
  (bif eqb (decide ((4294967296 : UInt64) ≤ q0)) false then (bif bif false then true else (decide ((((4294967296 : UInt64) * rhat) + un0) < (q0 * yn0))) then (bif decide ((4294967296 : UInt64) ≤ (rhat + yn1)) then (some (((q1 * (4294967296 : UInt64)) + (q0 - (1 : UInt64))), (shr_u64 (((un21 * (4294967296 : UInt64)) + un0) - ((q0 - (1 : UInt64)) * y)) (UInt64.toNat s))))
          else (bits_Div64_h2 k y s yn1 yn0 un0 q1 (rhat + yn1) un21 (q0 - (1 : UInt64))))
        else (some (((q1 * (4294967296 : UInt64)) + q0), (shr_u64 (((un21 * (4294967296 : UInt64)) + un0) - (q0 * y)) (UInt64.toNat s)))))
      else (bif decide ((4294967296 : UInt64) ≤ (rhat + yn1)) then (some (((q1 * (4294967296 : UInt64)) + (q0 - (1 : UInt64))), (shr_u64 (((un21 * (4294967296 : UInt64)) + un0) - ((q0 - (1 : UInt64)) * y)) (UInt64.toNat s))))
        else (bits_Div64_h2 k y s yn1 yn0 un0 q1 (rhat + yn1) un21 (q0 - (1 : UInt64))))) := by kernel_rfl
/-- the loop 0 of math/bits.Div64 -/
def bits_Div64_h0 : Nat → UInt64 → UInt64 → UInt64 → UInt64 → UInt64 → UInt64 → UInt64 → UInt64 → UInt64 → Option (UInt64 × UInt64)
  | 0, _, _, _, _, _, _, _, _, _ => none
  | k + 1, y, s, yn1, yn0, un32, un1, un0, q1, rhat => bif eqb (decide ((4294967296 : UInt64) ≤ q1)) false then (bif bif false then true else (decide ((((4294967296 : UInt64) * rhat) + un1) < (q1 * yn0))) then (bif decide ((4294967296 : UInt64) ≤ (rhat + yn1)) then (if yn1 ≠ (0 : UInt64) then
            bits_Div64_h2 k y s yn1 yn0 un0 (q1 - (1 : UInt64)) ((((un32 * (4294967296 : UInt64)) + un1) - ((q1 - (1 : UInt64)) * y)) - (((((un32 * (4294967296 : UInt64)) + un1) - ((q1 - (1 : UInt64)) * y)) / yn1) * yn1)) (((un32 * (4294967296 : UInt64)) + un1) - ((q1 - (1 : UInt64)) * y)) ((((un32 * (4294967296 : UInt64)) + un1) - ((q1 - (1 : UInt64)) * y)) / yn1)
          else none)
          else (bits_Div64_h0 k y s yn1 yn0 un32 un1 un0 (q1 - (1 : UInt64)) (rhat + yn1)))
        else (if yn1 ≠ (0 : UInt64) then
          bits_Div64_h2 k y s yn1 yn0 un0 q1 ((((un32 * (4294967296 : UInt64)) + un1) - (q1 * y)) - (((((un32 * (4294967296 : UInt64)) + un1) - (q1 * y)) / yn1) * yn1)) (((un32 * (4294967296 : UInt64)) + un1) - (q1 * y)) ((((un32 * (4294967296 : UInt64)) + un1) - (q1 * y)) / yn1)
        else none))
      else (bif decide ((4294967296 : UInt64) ≤ (rhat + yn1)) then (if yn1 ≠ (0 : UInt64) then
          bits_Div64_h2 k y s yn1 yn0 un0 (q1 - (1 : UInt64)) ((((un32 * (4294967296 : UInt64)) + un1) - ((q1 - (1 : UInt64)) * y)) - (((((un32 * (4294967296 : UInt64)) + un1) - ((q1 - (1 : UInt64)) * y)) / yn1) * yn1)) (((un32 * (4294967296 : UInt64)) + un1) - ((q1 - (1 : UInt64)) * y)) ((((un32 * (4294967296 : UInt64)) + un1) - ((q1 - (1 : UInt64)) * y)) / yn1)
        else none)
        else (bits_Div64_h0 k y s yn1 yn0 un32 un1 un0 (q1 - (1 : UInt64)) (rhat + yn1)))
theorem bits_Div64_h0_q (k : Nat) (y : UInt64) (s : UInt64) (yn1 : UInt64) (yn0 : UInt64) (un32 : UInt64) (un1 : UInt64) (un0 : UInt64) (q1 : UInt64) (rhat : UInt64) : bits_Div64_h0 (k + 1) y s yn1 yn0 un32 un1 un0 q1 rhat =
  (bif eqb (decide ((4294967296 : UInt64) ≤ q1)) false then (bif bif false then true else (decide ((((4294967296 : UInt64) * rhat) + un1) < (q1 * yn0))) then (bif decide ((4294967296 : UInt64) ≤ (rhat + yn1)) then (if yn1 ≠ (0 : UInt64) then
            bits_Div64_h2 k y s yn1 yn0 un0 (q1 - (1 : UInt64)) ((((un32 * (4294967296 : UInt64)) + un1) - ((q1 - (1 : UInt64)) * y)) - (((((un32 * (4294967296 : UInt64)) + un1) - ((q1 - (1 : UInt64)) * y)) / yn1) * yn1)) (((un32 * (4294967296 : UInt64)) + un1) - ((q1 - (1 : UInt64)) * y)) ((((un32 * (4294967296 : UInt64)) + un1) - ((q1 - (1 : UInt64)) * y)) / yn1)
          else none)
          else (bits_Div64_h0 k y s yn1 yn0 un32 un1 un0 (q1 - (1 : UInt64)) (rhat + yn1)))
        else (if yn1 ≠ (0 : UInt64) then
          bits_Div64_h2 k y s yn1 yn0 un0 q1 ((((un32 * (4294967296 : UInt64)) + un1) - (q1 * y)) - (((((un32 * (4294967296 : UInt64)) + un1) - (q1 * y)) / yn1) * yn1)) (((un32 * (4294967296 : UInt64)) + un1) - (q1 * y)) ((((un32 * (4294967296 : UInt64)) + un1) - (q1 * y)) / yn1)
        else none))
      else (bif decide ((4294967296 : UInt64) ≤ (rhat + yn1)) then (if yn1 ≠ (0 : UInt64) then
          bits_Div64_h2 k y s yn1 yn0 un0 (q1 - (1 : UInt64)) ((((un32 * (4294967296 : UInt64)) + un1) - ((q1 - (1 : UInt64)) * y)) - (((((un32 * (4294967296 : UInt64)) + un1) - ((q1 - (1 : UInt64)) * y)) / yn1) * yn1)) (((un32 * (4294967296 : UInt64)) + un1) - ((q1 - (1 : UInt64)) * y)) ((((un32 * (4294967296 : UInt64)) + un1) - ((q1 - (1 : UInt64)) * y)) / yn1)
        else none)
        else (bits_Div64_h0 k y s yn1 yn0 un32 un1 un0 (q1 - (1 : UInt64)) (rhat + yn1)))) := by kernel_rfl
/-- math/bits.Div64 -/
def bits_Div64 (k : Nat) (hi : UInt64) (lo : UInt64) (y : UInt64) : Option (UInt64 × UInt64) :=
  bif decide (y = (0 : UInt64)) then (none)
    else (bif decide (y ≤ hi) then (none)
      else (bif decide (hi = (0 : UInt64)) then (if y ≠ (0 : UInt64) then
          some ((lo / y), (lo % y))
        else none)
        else (if (shr_u64 (shl_u64 y (UInt64.toNat (UInt64.ofInt ((((64 : Nat) - (lenN (UInt64.toNat y))) : Nat) : Int)))) (32 : Nat)) ≠ (0 : UInt64) then
          bits_Div64_h0 k (shl_u64 y (UInt64.toNat (UInt64.ofInt ((((64 : Nat) - (lenN (UInt64.toNat y))) : Nat) : Int)))) (UInt64.ofInt ((((64 : Nat) - (lenN (UInt64.toNat y))) : Nat) : Int)) (shr_u64 (shl_u64 y (UInt64.toNat (UInt64.ofInt ((((64 : Nat) - (lenN (UInt64.toNat y))) : Nat) : Int)))) (32 : Nat)) ((shl_u64 y (UInt64.toNat (UInt64.ofInt ((((64 : Nat) - (lenN (UInt64.toNat y))) : Nat) : Int)))) &&& (4294967295 : UInt64)) ((shl_u64 hi (UInt64.toNat (UInt64.ofInt ((((64 : Nat) - (lenN (UInt64.toNat y))) : Nat) : Int)))) ||| (shr_u64 lo (UInt64.toNat ((64 : UInt64) - (UInt64.ofInt ((((64 : Nat) - (lenN (UInt64.toNat y))) : Nat) : Int)))))) (shr_u64 (shl_u64 lo (UInt64.toNat (UInt64.ofInt ((((64 : Nat) - (lenN (UInt64.toNat y))) : Nat) : Int)))) (32 : Nat)) ((shl_u64 lo (UInt64.toNat (UInt64.ofInt ((((64 : Nat) - (lenN (UInt64.toNat y))) : Nat) : Int)))) &&& (4294967295 : UInt64)) (((shl_u64 hi (UInt64.toNat (UInt64.ofInt ((((64 : Nat) - (lenN (UInt64.toNat y))) : Nat) : Int)))) ||| (shr_u64 lo (UInt64.toNat ((64 : UInt64) - (UInt64.ofInt ((((64 : Nat) - (lenN (UInt64.toNat y))) : Nat) : Int)))))) / (shr_u64 (shl_u64 y (UInt64.toNat (UInt64.ofInt ((((64 : Nat) - (lenN (UInt64.toNat y))) : Nat) : Int)))) (32 : Nat))) (((shl_u64 hi (UInt64.toNat (UInt64.ofInt ((((64 : Nat) - (lenN (UInt64.toNat y))) : Nat) : Int)))) ||| (shr_u64 lo (UInt64.toNat ((64 : UInt64) - (UInt64.ofInt ((((64 : Nat) - (lenN (UInt64.toNat y))) : Nat) : Int)))))) - ((((shl_u64 hi (UInt64.toNat (UInt64.ofInt ((((64 : Nat) - (lenN (UInt64.toNat y))) : Nat) : Int)))) ||| (shr_u64 lo (UInt64.toNat ((64 : UInt64) - (UInt64.ofInt ((((64 : Nat) - (lenN (UInt64.toNat y))) : Nat) : Int)))))) / (shr_u64 (shl_u64 y (UInt64.toNat (UInt64.ofInt ((((64 : Nat) - (lenN (UInt64.toNat y))) : Nat) : Int)))) (32 : Nat))) * (shr_u64 (shl_u64 y (UInt64.toNat (UInt64.ofInt ((((64 : Nat) - (lenN (UInt64.toNat y))) : Nat) : Int)))) (32 : Nat))))
        else none)))
theorem bits_Div64_q (k : Nat) (hi : UInt64) (lo : UInt64) (y : UInt64) : bits_Div64 k hi lo y = (bif decide (y = (0 : UInt64)) then (none)
    else (bif decide (y ≤ hi) then (none)
      else (bif decide (hi = (0 : UInt64)) then (if y ≠ (0 : UInt64) then
          some ((lo / y), (lo % y))
        else none)
        else (if (shr_u64 (shl_u64 y (UInt64.toNat (UInt64.ofInt ((((64 : Nat) - (lenN (UInt64.toNat y))) : Nat) : Int)))) (32 : Nat)) ≠ (0 : UInt64) then
          bits_Div64_h0 k (shl_u64 y (UInt64.toNat (UInt64.ofInt ((((64 : Nat) - (lenN (UInt64.toNat y))) : Nat) : Int)))) (UInt64.ofInt ((((64 : Nat) - (lenN (UInt64.toNat y))) : Nat) : Int)) (shr_u64 (shl_u64 y (UInt64.toNat (UInt64.ofInt ((((64 : Nat) - (lenN (UInt64.toNat y))) : Nat) : Int)))) (32 : Nat)) ((shl_u64 y (UInt64.toNat (UInt64.ofInt ((((64 : Nat) - (lenN (UInt64.toNat y))) : Nat) : Int)))) &&& (4294967295 : UInt64)) ((shl_u64 hi (UInt64.toNat (UInt64.ofInt ((((64 : Nat) - (lenN (UInt64.toNat y))) : Nat) : Int)))) ||| (shr_u64 lo (UInt64.toNat ((64 : UInt64) - (UInt64.ofInt ((((64 : Nat) - (lenN (UInt64.toNat y))) : Nat) : Int)))))) (shr_u64 (shl_u64 lo (UInt64.toNat (UInt64.ofInt ((((64 : Nat) - (lenN (UInt64.toNat y))) : Nat) : Int)))) (32 : Nat)) ((shl_u64 lo (UInt64.toNat (UInt64.ofInt ((((64 : Nat) - (lenN (UInt64.toNat y))) : Nat) : Int)))) &&& (4294967295 : UInt64)) (((shl_u64 hi (UInt64.toNat (UInt64.ofInt ((((64 : Nat) - (lenN (UInt64.toNat y))) : Nat) : Int)))) ||| (shr_u64 lo (UInt64.toNat ((64 : UInt64) - (UInt64.ofInt ((((64 : Nat) - (lenN (UInt64.toNat y))) : Nat) : Int)))))) / (shr_u64 (shl_u64 y (UInt64.toNat (UInt64.ofInt ((((64 : Nat) - (lenN (UInt64.toNat y))) : Nat) : Int)))) (32 : Nat))) (((shl_u64 hi (UInt64.toNat (UInt64.ofInt ((((64 : Nat) - (lenN (UInt64.toNat y))) : Nat) : Int)))) ||| (shr_u64 lo (UInt64.toNat ((64 : UInt64) - (UInt64.ofInt ((((64 : Nat) - (lenN (UInt64.toNat y))) : Nat) : Int)))))) - ((((shl_u64 hi (UInt64.toNat (UInt64.ofInt ((((64 : Nat) - (lenN (UInt64.toNat y))) : Nat) : Int)))) ||| (shr_u64 lo (UInt64.toNat ((64 : UInt64) - (UInt64.ofInt ((((64 : Nat) - (lenN (UInt64.toNat y))) : Nat) : Int)))))) / (shr_u64 (shl_u64 y (UInt64.toNat (UInt64.ofInt ((((64 : Nat) - (lenN (UInt64.toNat y))) : Nat) : Int)))) (32 : Nat))) * (shr_u64 (shl_u64 y (UInt64.toNat (UInt64.ofInt ((((64 : Nat) - (lenN (UInt64.toNat y))) : Nat) : Int)))) (32 : Nat))))
        else none)))) := by kernel_rfl
theorem kn_step {U d Y a b q r : Nat} (hY : Y = a * 4294967296 + b) (hb : b < 4294967296) (hU : U < Y) (hd : d < 4294967296) (hi : q * a + r = U) (hr : r < 4294967296) (hq : (U * 4294967296 + d) / Y ≤ q) :
    (¬ (4294967296 ≤ q ∨ 4294967296 * r + d < q * b) → q = (U * 4294967296 + d) / Y) ∧ ((4294967296 ≤ q ∨ 4294967296 * r + d < q * b) → 1 ≤ q ∧ (U * 4294967296 + d) / Y ≤ q - 1 ∧ (q - 1) * a + (r + a) = U ∧ (4294967296 ≤ r + a → q - 1 = (U * 4294967296 + d) / Y)) := by
  have hY0 : 0 < Y := by omega
  have qlt : (U * 4294967296 + d) / Y < 4294967296 := by
    rw [Nat.div_lt_iff_lt_mul hY0]
    have : (U + 1) * 4294967296 ≤ Y * 4294967296 := Nat.mul_le_mul_right _ hU
    omega
  have e : ∀ q r, q * a + r = U → (q * Y + 4294967296 * r = U * 4294967296 + q * b) := by
    intro q r h
    rw [hY, ← h]
    grind
  have up : ∀ q r, q * a + r = U → q * b ≤ 4294967296 * r + d → q ≤ (U * 4294967296 + d) / Y := by
    intro q r h h2
    rw [Nat.le_div_iff_mul_le hY0]
    have := e q r h
    omega
  constructor
  · intro h
    have := up q r hi (by omega)
    omega
  · intro h
    have h1 : (U * 4294967296 + d) / Y < q := by
      rcases h with h | h
      · omega
      · rw [Nat.div_lt_iff_lt_mul hY0]
        have := e q r hi
        omega
    have h2 : 1 ≤ q := Nat.lt_of_le_of_lt (Nat.zero_le _) h1
    have h3 : (q - 1) * a + (r + a) = U := by
      obtain ⟨p, rfl⟩ : ∃ p, q = p + 1 := ⟨q - 1, by omega⟩
      rw [Nat.add_sub_cancel, ← hi, Nat.succ_mul]
      omega
    refine ⟨h2, by omega, h3, fun h4 => ?_⟩
    have h5 : q - 1 < 4294967296 := by
      by_cases c : q - 1 < 4294967296
      · exact c
      · have : 4294967296 * a ≤ (q - 1) * a := Nat.mul_le_mul_right _ (by omega)
        omega
    have h6 : (q - 1) * b ≤ (q - 1) * 4294967296 := Nat.mul_le_mul_left _ (by omega)
    have := up (q - 1) (r + a) h3 (by omega)
    omega
theorem kn_first {U d Y a b : Nat} (hY : Y = a * 4294967296 + b) (ha : 0 < a) (hd : d < 4294967296) : (U * 4294967296 + d) / Y ≤ U / a := by
  have h : (U * 4294967296 + d) / Y ≤ (U * 4294967296 + d) / (4294967296 * a) := Nat.div_le_div_left (by omega) (by omega)
  rw [← Nat.div_div_eq_div_mul, show (U * 4294967296 + d) / 4294967296 = U by omega] at h
  exact h
theorem kn_rest (a b : UInt64) (h : 0 < b.toNat) : (a - a / b * b).toNat = a.toNat % b.toNat := by
  have hm : (a / b * b).toNat = a.toNat / b.toNat * b.toNat := by
    rw [UInt64.toNat_mul, UInt64.toNat_div]
    exact Nat.mod_eq_of_lt (Nat.lt_of_le_of_lt (Nat.div_mul_le_self _ _) a.toNat_lt)
  have hl : a / b * b ≤ a := by
    rw [UInt64.le_iff_toNat_le, hm]
    exact Nat.div_mul_le_self _ _
  rw [UInt64.toNat_sub_of_le _ _ hl, hm]
  have := Nat.div_add_mod a.toNat b.toNat
  rw [Nat.mul_comm] at this
  omega
theorem kn_left (U d q y : UInt64) (h : q.toNat = (U.toNat * 4294967296 + d.toNat) / y.toNat) : (U * 4294967296 + d) - q * y = UInt64.ofNat ((U.toNat * 4294967296 + d.toNat) % y.toNat) := by
  have e : U * 4294967296 + d = q * y + UInt64.ofNat ((U.toNat * 4294967296 + d.toNat) % y.toNat) := by
    have h2 : U * 4294967296 + d = UInt64.ofNat (U.toNat * 4294967296 + d.toNat) := by
      rw [UInt64.ofNat_add, UInt64.ofNat_mul, UInt64.ofNat_toNat, UInt64.ofNat_toNat]
      rfl
    have h3 : q * y = UInt64.ofNat (q.toNat * y.toNat) := by
      rw [UInt64.ofNat_mul, UInt64.ofNat_toNat, UInt64.ofNat_toNat]
    rw [h2, h3, ← UInt64.ofNat_add, h, Nat.div_add_mod']
  rw [e, UInt64.add_comm, UInt64.add_sub_cancel]
theorem kn_cond {q r a b d : UInt64} (hr : r.toNat < 4294967296) (hd : d.toNat < 4294967296) (hb : b.toNat < 4294967296) {α : Type} (X Z : α) :
    (bif eqb (decide ((4294967296 : UInt64) ≤ q)) false then (bif bif false then true else (decide (((4294967296 : UInt64) * r) + d < q * b)) then X else Z) else X) = if 4294967296 ≤ q.toNat ∨ 4294967296 * r.toNat + d.toNat < q.toNat * b.toNat then X else Z := by
  by_cases c : 4294967296 ≤ q.toNat
  · rw [if_pos (Or.inl c), decide_eq_true (by rw [UInt64.le_iff_toNat_le]; exact c)]; rfl
  · rw [decide_eq_false (by rw [UInt64.le_iff_toNat_le]; exact c)]
    have e1 : (4294967296 * r + d).toNat = 4294967296 * r.toNat + d.toNat := by
      rw [UInt64.toNat_add, UInt64.toNat_mul, show (4294967296 : UInt64).toNat = 4294967296 from rfl]
      omega
    have e2 : (q * b).toNat = q.toNat * b.toNat := by
      rw [UInt64.toNat_mul]
      have : q.toNat * b.toNat ≤ 4294967296 * 4294967296 - 4294967296 := by
        have h1 : q.toNat * b.toNat ≤ 4294967295 * b.toNat := Nat.mul_le_mul_right _ (by omega)
        omega
      omega
    have e3 : ((4294967296 * r + d < q * b)) ↔ (4294967296 ≤ q.toNat ∨ 4294967296 * r.toNat + d.toNat < q.toNat * b.toNat) := by
      rw [UInt64.lt_iff_toNat_lt, e1, e2]
      omega
    by_cases c2 : 4294967296 * r + d < q * b
    · rw [decide_eq_true c2, if_pos (e3.1 c2)]; rfl
    · rw [decide_eq_false c2, if_neg (fun h => c2 (e3.2 h))]; rfl
theorem kn_break {r a : UInt64} (hr : r.toNat < 4294967296) (ha : a.toNat < 4294967296) {α : Type} (X Z : α) :
    (bif decide ((4294967296 : UInt64) ≤ r + a) then X else Z) = if 4294967296 ≤ r.toNat + a.toNat then X else Z := by
  have e : (r + a).toNat = r.toNat + a.toNat := by rw [UInt64.toNat_add]; omega
  have e2 : ((4294967296 : UInt64) ≤ r + a) ↔ 4294967296 ≤ r.toNat + a.toNat := by
    rw [UInt64.le_iff_toNat_le, e]; rfl
  by_cases c : 4294967296 ≤ r.toNat + a.toNat
  · rw [if_pos c, bif_pos (e2.2 c)]
  · rw [if_neg c, bif_neg (fun h => c (e2.1 h))]
theorem kn_less {q : UInt64} (h : 1 ≤ q.toNat) : (q - 1).toNat = q.toNat - 1 := by
  rw [UInt64.toNat_sub_of_le _ _ (by rw [UInt64.le_iff_toNat_le]; exact h)]
  rfl
theorem ofNat_of {x : UInt64} {n : Nat} (h : x.toNat = n) : x = UInt64.ofNat n := by rw [← h, UInt64.ofNat_toNat]
theorem bits_Div64_l2 (y s yn1 yn0 un0 q1 un21 : UInt64) (hY : y.toNat = yn1.toNat * 4294967296 + yn0.toNat) (ha : yn1.toNat < 4294967296) (hb : yn0.toNat < 4294967296) (hd : un0.toNat < 4294967296) (hU : un21.toNat < y.toNat) :
    ∀ (m : Nat) (q0 rhat : UInt64), q0.toNat * yn1.toNat + rhat.toNat = un21.toNat → rhat.toNat < 4294967296 → (un21.toNat * 4294967296 + un0.toNat) / y.toNat ≤ q0.toNat → 4294967296 ≤ rhat.toNat + m * yn1.toNat →
    Ev (fun k => bits_Div64_h2 k y s yn1 yn0 un0 q1 rhat un21 q0) (q1 * 4294967296 + UInt64.ofNat ((un21.toNat * 4294967296 + un0.toNat) / y.toNat), shr_u64 (UInt64.ofNat ((un21.toNat * 4294967296 + un0.toNat) % y.toNat)) s.toNat)
  | 0, q0, rhat, hi, hr, hq, hm => by omega
  | m + 1, q0, rhat, hi, hr, hq, hm => by
    obtain ⟨k1, k2⟩ := kn_step hY hb hU hd hi hr hq
    by_cases c : 4294967296 ≤ q0.toNat ∨ 4294967296 * rhat.toNat + un0.toNat < q0.toNat * yn0.toNat
    · obtain ⟨g1, g2, g3, g4⟩ := k2 c
      by_cases d : 4294967296 ≤ rhat.toNat + yn1.toNat
      · refine Ev.done fun k => ?_
        have e : (q0 - 1).toNat = (un21.toNat * 4294967296 + un0.toNat) / y.toNat := by rw [kn_less g1]; exact g4 d
        rw [bits_Div64_h2_q, kn_cond (a := yn1) hr hd hb, if_pos c, kn_break hr ha, if_pos d, kn_left _ _ _ _ e, ← ofNat_of e]
      · have er : (rhat + yn1).toNat = rhat.toNat + yn1.toNat := by rw [UInt64.toNat_add]; omega
        refine Ev.step (fun k => ?_) (bits_Div64_l2 y s yn1 yn0 un0 q1 un21 hY ha hb hd hU m (q0 - 1) (rhat + yn1) (by rw [kn_less g1, er]; exact g3) (by omega) (by rw [kn_less g1]; exact g2) (by rw [er]; rw [Nat.succ_mul] at hm; omega))
        rw [bits_Div64_h2_q, kn_cond (a := yn1) hr hd hb, if_pos c, kn_break hr ha, if_neg d]
    · have e := k1 c
      refine Ev.done fun k => ?_
      rw [bits_Div64_h2_q, kn_cond (a := yn1) hr hd hb, if_neg c, kn_left _ _ _ _ e, ← ofNat_of e]
theorem bits_Div64_m (y s yn1 yn0 un32 un1 un0 q1 : UInt64) (hY : y.toNat = yn1.toNat * 4294967296 + yn0.toNat) (ha0 : 2147483648 ≤ yn1.toNat) (ha : yn1.toNat < 4294967296) (hb : yn0.toNat < 4294967296) (hd : un1.toNat < 4294967296) (hd0 : un0.toNat < 4294967296)
    (e : q1.toNat = (un32.toNat * 4294967296 + un1.toNat) / y.toNat) (Q1 R1 : Nat) (hQ : Q1 = (un32.toNat * 4294967296 + un1.toNat) / y.toNat) (hR : R1 = (un32.toNat * 4294967296 + un1.toNat) % y.toNat) :
    Ev (fun k => if yn1 ≠ (0 : UInt64) then
          bits_Div64_h2 k y s yn1 yn0 un0 q1 ((((un32 * (4294967296 : UInt64)) + un1) - (q1 * y)) - (((((un32 * (4294967296 : UInt64)) + un1) - (q1 * y)) / yn1) * yn1)) (((un32 * (4294967296 : UInt64)) + un1) - (q1 * y)) ((((un32 * (4294967296 : UInt64)) + un1) - (q1 * y)) / yn1)
        else none) (UInt64.ofNat Q1 * 4294967296 + UInt64.ofNat ((R1 * 4294967296 + un0.toNat) / y.toNat), shr_u64 (UInt64.ofNat ((R1 * 4294967296 + un0.toNat) % y.toNat)) s.toNat) := by
  have hne : yn1 ≠ 0 := by
    intro h
    rw [h] at ha0
    exact absurd ha0 (by decide)
  refine Ev.same (fun k => if_pos hne) ?_
  have hy0 : 0 < y.toNat := by omega
  have hRl : R1 < y.toNat := by rw [hR]; exact Nat.mod_lt _ hy0
  have hRw : (UInt64.ofNat R1).toNat = R1 := by
    have := y.toNat_lt
    rw [UInt64.toNat_ofNat', Nat.mod_eq_of_lt (by omega)]
  rw [kn_left _ _ _ _ e, ← hR]
  have rest := kn_rest (UInt64.ofNat R1) yn1 (by omega)
  have hml := Nat.mod_lt (UInt64.ofNat R1).toNat (show 0 < yn1.toNat by omega)
  have := bits_Div64_l2 y s yn1 yn0 un0 q1 (UInt64.ofNat R1) hY ha hb hd0 (by rw [hRw]; exact hRl) 2 (UInt64.ofNat R1 / yn1) (UInt64.ofNat R1 - UInt64.ofNat R1 / yn1 * yn1)
    (by rw [rest, UInt64.toNat_div, Nat.mul_comm]; exact Nat.div_add_mod _ _) (by rw [rest]; omega) (by rw [UInt64.toNat_div]; exact kn_first hY (by omega) hd0) (by omega)
  rw [hRw] at this
  rw [hQ, ← ofNat_of e]
  exact this
theorem bits_Div64_l0 (y s yn1 yn0 un32 un1 un0 : UInt64) (hY : y.toNat = yn1.toNat * 4294967296 + yn0.toNat) (ha0 : 2147483648 ≤ yn1.toNat) (ha : yn1.toNat < 4294967296) (hb : yn0.toNat < 4294967296) (hd : un1.toNat < 4294967296) (hd0 : un0.toNat < 4294967296) (hU : un32.toNat < y.toNat)
    (Q1 R1 : Nat) (hQ : Q1 = (un32.toNat * 4294967296 + un1.toNat) / y.toNat) (hR : R1 = (un32.toNat * 4294967296 + un1.toNat) % y.toNat) :
    ∀ (m : Nat) (q1 rhat : UInt64), q1.toNat * yn1.toNat + rhat.toNat = un32.toNat → rhat.toNat < 4294967296 → (un32.toNat * 4294967296 + un1.toNat) / y.toNat ≤ q1.toNat → 4294967296 ≤ rhat.toNat + m * yn1.toNat →
    Ev (fun k => bits_Div64_h0 k y s yn1 yn0 un32 un1 un0 q1 rhat) (UInt64.ofNat Q1 * 4294967296 + UInt64.ofNat ((R1 * 4294967296 + un0.toNat) / y.toNat), shr_u64 (UInt64.ofNat ((R1 * 4294967296 + un0.toNat) % y.toNat)) s.toNat)
  | 0, q1, rhat, hi, hr, hq, hm => by omega
  | m + 1, q1, rhat, hi, hr, hq, hm => by
    obtain ⟨k1, k2⟩ := kn_step hY hb hU hd hi hr hq
    by_cases c : 4294967296 ≤ q1.toNat ∨ 4294967296 * rhat.toNat + un1.toNat < q1.toNat * yn0.toNat
    · obtain ⟨g1, g2, g3, g4⟩ := k2 c
      by_cases d : 4294967296 ≤ rhat.toNat + yn1.toNat
      · have e : (q1 - 1).toNat = (un32.toNat * 4294967296 + un1.toNat) / y.toNat := by rw [kn_less g1]; exact g4 d
        refine Ev.step (fun k => ?_) (bits_Div64_m y s yn1 yn0 un32 un1 un0 (q1 - 1) hY ha0 ha hb hd hd0 e Q1 R1 hQ hR)
        rw [bits_Div64_h0_q, kn_cond (a := yn1) hr hd hb, if_pos c, kn_break hr ha, if_pos d]
      · have er : (rhat + yn1).toNat = rhat.toNat + yn1.toNat := by rw [UInt64.toNat_add]; omega
        refine Ev.step (fun k => ?_) (bits_Div64_l0 y s yn1 yn0 un32 un1 un0 hY ha0 ha hb hd hd0 hU Q1 R1 hQ hR m (q1 - 1) (rhat + yn1) (by rw [kn_less g1, er]; exact g3) (by omega) (by rw [kn_less g1]; exact g2) (by rw [er]; rw [Nat.succ_mul] at hm; omega))
        rw [bits_Div64_h0_q, kn_cond (a := yn1) hr hd hb, if_pos c, kn_break hr ha, if_neg d]
    · have e := k1 c
      refine Ev.step (fun k => ?_) (bits_Div64_m y s yn1 yn0 un32 un1 un0 q1 hY ha0 ha hb hd hd0 e Q1 R1 hQ hR)
      rw [bits_Div64_h0_q, kn_cond (a := yn1) hr hd hb, if_neg c]

theorem kn_two {Y : Nat} (hY : 0 < Y) (A c : Nat) : (A * 4294967296 + c) / Y = A / Y * 4294967296 + (A % Y * 4294967296 + c) / Y ∧ (A * 4294967296 + c) % Y = (A % Y * 4294967296 + c) % Y := by
  have h := Nat.div_add_mod A Y
  have e : A * 4294967296 + c = Y * (A / Y * 4294967296) + (A % Y * 4294967296 + c) := by
    have : A * 4294967296 = (Y * (A / Y) + A % Y) * 4294967296 := by rw [h]
    rw [this]
    grind
  constructor
  · rw [e, Nat.mul_add_div hY]
  · rw [e, Nat.mul_add_mod]
theorem bits_Div64_spec (hi lo y : UInt64) (h : hi.toNat < y.toNat) : ∃ k, bits_Div64 k hi lo y = some (UInt64.ofNat ((hi.toNat * 18446744073709551616 + lo.toNat) / y.toNat), UInt64.ofNat ((hi.toNat * 18446744073709551616 + lo.toNat) % y.toNat)) := by
  show Ev (fun k => bits_Div64 k hi lo y) _
  refine Ev.same (fun k => bits_Div64_q k hi lo y) ?_
  have hyl := y.toNat_lt
  have hll := lo.toNat_lt
  have c0 : ¬ (y = 0) := by
    intro e
    rw [e] at h
    exact absurd h (Nat.not_lt_zero _)
  have c1 : ¬ (y ≤ hi) := by
    rw [UInt64.le_iff_toNat_le]; omega
  refine Ev.same (fun k => by rw [bif_neg c0, bif_neg c1]) ?_
  by_cases c2 : hi = 0
  · refine Ev.done0 fun k => ?_
    rw [bif_pos c2, if_pos c0, c2, show (0 : UInt64).toNat = 0 from rfl, Nat.zero_mul, Nat.zero_add, ← UInt64.toNat_div, ← UInt64.toNat_mod, UInt64.ofNat_toNat, UInt64.ofNat_toNat]
  refine Ev.same (fun k => bif_neg c2) ?_
  have hL : lenN y.toNat ≤ 64 := lenN_le64 y
  have hY1 : y.toNat < 2 ^ lenN y.toNat := lenN_le.1 (Nat.le_refl _)
  have hL0 : 1 ≤ lenN y.toNat := by
    by_cases c : 1 ≤ lenN y.toNat
    · exact c
    · rw [show lenN y.toNat = 0 by omega] at hY1
      rw [Nat.pow_zero] at hY1
      omega
  have hY0 : 2 ^ (lenN y.toNat - 1) ≤ y.toNat := by
    by_cases c : 2 ^ (lenN y.toNat - 1) ≤ y.toNat
    · exact c
    · have := lenN_le.2 (show y.toNat < 2 ^ (lenN y.toNat - 1) by omega)
      omega
  obtain ⟨S, hS, hS2⟩ : ∃ S, S = 64 - lenN y.toNat ∧ lenN y.toNat = 64 - S := ⟨64 - lenN y.toNat, rfl, by omega⟩
  rw [← hS]
  have hS3 : S ≤ 63 := by omega
  have sv : (UInt64.ofInt ((S : Nat) : Int)).toNat = S := u64_ofInt (by omega)
  have pS : 0 < 2 ^ S := Nat.two_pow_pos S
  have pw : 2 ^ (64 - S) * 2 ^ S = 18446744073709551616 := by
    rw [← Nat.pow_add, show 64 - S + S = 64 by omega]
  have pw1 : 2 ^ (64 - S - 1) * 2 ^ S = 9223372036854775808 := by
    rw [← Nat.pow_add, show 64 - S - 1 + S = 63 by omega]
  have yS : y.toNat * 2 ^ S < 18446744073709551616 := by
    rw [← pw, ← hS2]
    exact Nat.mul_lt_mul_of_pos_right hY1 pS
  have yS0 : 9223372036854775808 ≤ y.toNat * 2 ^ S := by
    rw [← pw1, ← hS2]
    exact Nat.mul_le_mul_right _ hY0
  have shl : ∀ x : UInt64, (shl_u64 x S).toNat = x.toNat * 2 ^ S % 18446744073709551616 := by
    intro x
    unfold shl_u64
    rw [UInt64.toNat_ofNat', Nat.min_eq_left (by omega)]
  have yv : (shl_u64 y S).toNat = y.toNat * 2 ^ S := by rw [shl, Nat.mod_eq_of_lt yS]
  have hiS : hi.toNat * 2 ^ S + 2 ^ S ≤ y.toNat * 2 ^ S := by
    rw [← Nat.succ_mul]
    exact Nat.mul_le_mul_right _ h
  have s64 : ((64 : UInt64) - UInt64.ofInt ((S : Nat) : Int)).toNat = 64 - S := by
    rw [UInt64.toNat_sub, sv, show (64 : UInt64).toNat = 64 from rfl]
    omega
  have lo1 : (shr_u64 lo (64 - S)).toNat = lo.toNat / 2 ^ (64 - S) := shr_val _ _ (by omega)
  have lo2 : lo.toNat * 2 ^ S / 18446744073709551616 = lo.toNat / 2 ^ (64 - S) := by
    rw [← pw, Nat.mul_div_mul_right _ _ pS]
  have lo3 : lo.toNat / 2 ^ (64 - S) < 2 ^ S := by
    rw [Nat.div_lt_iff_lt_mul (Nat.two_pow_pos _), Nat.mul_comm, pw]
    exact hll
  have uv : (shl_u64 hi S ||| shr_u64 lo (64 - S)).toNat = hi.toNat * 2 ^ S + lo.toNat / 2 ^ (64 - S) := by
    rw [UInt64.toNat_or, lo1, shl, Nat.mod_eq_of_lt (by omega), Nat.mul_comm, Nat.two_pow_add_eq_or_of_lt lo3]
  have and32 : ∀ x : UInt64, (x &&& 4294967295).toNat = x.toNat % 4294967296 := by
    intro x
    rw [UInt64.toNat_and, show (4294967295 : UInt64).toNat = 2 ^ 32 - 1 from rfl, Nat.and_two_pow_sub_one_eq_mod]
  have shr32 : ∀ x : UInt64, (shr_u64 x 32).toNat = x.toNat / 4294967296 := fun x => shr_val _ _ (by omega)
  rw [sv, s64]
  generalize ey : shl_u64 y S = Y at *
  generalize eu : shl_u64 hi S ||| shr_u64 lo (64 - S) = U at *
  generalize el : shl_u64 lo S = L at *
  have hYl := Y.toNat_lt
  have lv : L.toNat = lo.toNat * 2 ^ S % 18446744073709551616 := by rw [← el]; exact shl lo
  have hLl := L.toNat_lt
  have a0 : 2147483648 ≤ (shr_u64 Y 32).toNat := by rw [shr32]; omega
  have hne : shr_u64 Y 32 ≠ 0 := by
    intro e
    rw [e] at a0
    exact absurd a0 (by decide)
  refine Ev.same (fun k => if_pos hne) ?_
  have hUl : U.toNat < Y.toNat := by rw [uv, yv]; omega
  have rest := kn_rest U (shr_u64 Y 32) (by omega)
  have hml := Nat.mod_lt U.toNat (show 0 < (shr_u64 Y 32).toNat by omega)
  have eY : Y.toNat = (shr_u64 Y 32).toNat * 4294967296 + (Y &&& 4294967295).toNat := by rw [shr32, and32]; omega
  have al : (shr_u64 Y 32).toNat < 4294967296 := by rw [shr32]; omega
  have bl : (Y &&& 4294967295).toNat < 4294967296 := by rw [and32]; omega
  have dl : (shr_u64 L 32).toNat < 4294967296 := by rw [shr32]; omega
  have dl0 : (L &&& 4294967295).toNat < 4294967296 := by rw [and32]; omega
  have main := bits_Div64_l0 Y (UInt64.ofInt ((S : Nat) : Int)) (shr_u64 Y 32) (Y &&& 4294967295) U (shr_u64 L 32) (L &&& 4294967295) eY a0 al bl dl dl0 hUl _ _ rfl rfl 2 (U / shr_u64 Y 32) (U - U / shr_u64 Y 32 * shr_u64 Y 32)
    (by rw [rest, UInt64.toNat_div]; exact Nat.div_add_mod' _ _) (by rw [rest]; omega) (by rw [UInt64.toNat_div]; exact kn_first eY (by omega) dl) (by omega)
  have hY00 : 0 < Y.toNat := by omega
  have eN : (U.toNat * 4294967296 + (shr_u64 L 32).toNat) * 4294967296 + (L &&& 4294967295).toNat = (hi.toNat * 18446744073709551616 + lo.toNat) * 2 ^ S := by
    rw [shr32, and32, uv, ← lo2, lv, Nat.add_mul (hi.toNat * 18446744073709551616)]
    have := Nat.div_add_mod (lo.toNat * 2 ^ S) 18446744073709551616
    have e3 : hi.toNat * 18446744073709551616 * 2 ^ S = hi.toNat * 2 ^ S * 18446744073709551616 := by grind
    rw [e3]
    omega
  have two := kn_two hY00 (U.toNat * 4294967296 + (shr_u64 L 32).toNat) (L &&& 4294967295).toNat
  rw [eN, yv, Nat.mul_div_mul_right _ _ pS, Nat.mul_mod_mul_right] at two
  rw [yv] at main
  have q1 : UInt64.ofNat ((U.toNat * 4294967296 + (shr_u64 L 32).toNat) / (y.toNat * 2 ^ S)) * 4294967296 + UInt64.ofNat (((U.toNat * 4294967296 + (shr_u64 L 32).toNat) % (y.toNat * 2 ^ S) * 4294967296 + (L &&& 4294967295).toNat) / (y.toNat * 2 ^ S)) = UInt64.ofNat ((hi.toNat * 18446744073709551616 + lo.toNat) / y.toNat) := by
    rw [two.1, UInt64.ofNat_add, UInt64.ofNat_mul]
    rfl
  have q2 : shr_u64 (UInt64.ofNat (((U.toNat * 4294967296 + (shr_u64 L 32).toNat) % (y.toNat * 2 ^ S) * 4294967296 + (L &&& 4294967295).toNat) % (y.toNat * 2 ^ S))) (UInt64.ofInt ((S : Nat) : Int)).toNat = UInt64.ofNat ((hi.toNat * 18446744073709551616 + lo.toNat) % y.toNat) := by
    have hlt := Nat.mod_lt (hi.toNat * 18446744073709551616 + lo.toNat) (show 0 < y.toNat by omega)
    have hlt2 : (hi.toNat * 18446744073709551616 + lo.toNat) % y.toNat * 2 ^ S < y.toNat * 2 ^ S := Nat.mul_lt_mul_of_pos_right hlt pS
    rw [← two.2, sv]
    generalize (hi.toNat * 18446744073709551616 + lo.toNat) % y.toNat = R at hlt hlt2
    have i1 : R * 2 ^ S < 2 ^ 64 := by omega
    have i2 : R < 2 ^ 64 := by omega
    apply UInt64.toNat_inj.1
    rw [shr_val _ _ (by omega), UInt64.toNat_ofNat', UInt64.toNat_ofNat', Nat.mod_eq_of_lt i1, Nat.mod_eq_of_lt i2, Nat.mul_div_cancel _ pS]
  rw [q1, q2] at main
  exact main

end
end Go.Proofs.Ytepcjobghbanmaa.M

namespace Go.Proofs.Ytepcjobghbanmaa.M
open Go
noncomputable section
set_option maxRecDepth 100000
set_option maxHeartbeats 0
noncomputable def bits_Len64_T : Tbl := []
noncomputable def bits_Len64_C : CfgW := mkC Try.prog noG bits_Len64_T 25 0 false
def bits_Len64_lv : Nat → List Nat := fun i => []
noncomputable abbrev bits_Len64_b : Code := Try.f61.body.getD .skip
noncomputable abbrev bits_Len64_r : List ResultVar := Try.f61.results.toList
def bits_Len64_hs : List Nat := []

def bits_Len64_enc (r : Int) : CallOut := ⟨.pv (.sc .i r), [], true, []⟩
theorem bits_Len64_e (x_0 : UInt64) (Q : CallOut → Prop) : evalFnP bits_Len64_C bits_Len64_lv bits_Len64_r bits_Len64_hs bits_Len64_b [.pv (.sc .u64 x_0)] [] Q =
    (condP (decide ((4294967296 : UInt64) ≤ x_0)) (condP (decide ((65536 : UInt64) ≤ (shr_u64 x_0 (32 : Nat)))) (condP (decide ((256 : UInt64) ≤ (shr_u64 (shr_u64 x_0 (32 : Nat)) (16 : Nat)))) ((((0 : Int) ≤ (((UInt8.toNat (UInt64.toUInt8 (shr_u64 (shr_u64 (shr_u64 x_0 (32 : Nat)) (16 : Nat)) (8 : Nat)))) : Nat) : Int)) ∧ ((((UInt8.toNat (UInt64.toUInt8 (shr_u64 (shr_u64 (shr_u64 x_0 (32 : Nat)) (16 : Nat)) (8 : Nat)))) : Nat) : Int) < (((List.length (Array.toList (ByteArray.data (ByteArray.mk (List.toArray (List.append (List.append ([(0 : UInt8), (1 : UInt8), (2 : UInt8), (2 : UInt8), (3 : UInt8), (3 : UInt8), (3 : UInt8), (3 : UInt8), (4 : UInt8), (4 : UInt8), (4 : UInt8), (4 : UInt8), (4 : UInt8), (4 : UInt8), (4 : UInt8), (4 : UInt8), (5 : UInt8), (5 : UInt8), (5 : UInt8), (5 : UInt8), (5 : UInt8), (5 : UInt8), (5 : UInt8), (5 : UInt8), (5 : UInt8), (5 : UInt8), (5 : UInt8), (5 : UInt8), (5 : UInt8), (5 : UInt8), (5 : UInt8), (5 : UInt8), (6 : UInt8), (6 : UInt8), (6 : UInt8), (6 : UInt8), (6 : UInt8), (6 : UInt8), (6 : UInt8), (6 : UInt8), (6 : UInt8), (6 : UInt8), (6 : UInt8), (6 : UInt8), (6 : UInt8), (6 : UInt8), (6 : UInt8), (6 : UInt8), (6 : UInt8), (6 : UInt8), (6 : UInt8), (6 : UInt8), (6 : UInt8), (6 : UInt8), (6 : UInt8), (6 : UInt8), (6 : UInt8), (6 : UInt8), (6 : UInt8), (6 : UInt8), (6 : UInt8), (6 : UInt8), (6 : UInt8), (6 : UInt8)] : List UInt8) ([(7 : UInt8), (7 : UInt8), (7 : UInt8), (7 : UInt8), (7 : UInt8), (7 : UInt8), (7 : UInt8), (7 : UInt8), (7 : UInt8), (7 : UInt8), (7 : UInt8), (7 : UInt8), (7 : UInt8), (7 : UInt8), (7 : UInt8), (7 : UInt8), (7 : UInt8), (7 : UInt8), (7 : UInt8), (7 : UInt8), (7 : UInt8), (7 : UInt8), (7 : UInt8), (7 : UInt8), (7 : UInt8), (7 : UInt8), (7 : UInt8), (7 : UInt8), (7 : UInt8), (7 : UInt8), (7 : UInt8), (7 : UInt8), (7 : UInt8), (7 : UInt8), (7 : UInt8), (7 : UInt8), (7 : UInt8), (7 : UInt8), (7 : UInt8), (7 : UInt8), (7 : UInt8), (7 : UInt8), (7 : UInt8), (7 : UInt8), (7 : UInt8), (7 : UInt8), (7 : UInt8), (7 : UInt8), (7 : UInt8), (7 : UInt8), (7 : UInt8), (7 : UInt8), (7 : UInt8), (7 : UInt8), (7 : UInt8), (7 : UInt8), (7 : UInt8), (7 : UInt8), (7 : UInt8), (7 : UInt8), (7 : UInt8), (7 : UInt8), (7 : UInt8), (7 : UInt8)] : List UInt8)) (List.append ([(8 : UInt8), (8 : UInt8), (8 : UInt8), (8 : UInt8), (8 : UInt8), (8 : UInt8), (8 : UInt8), (8 : UInt8), (8 : UInt8), (8 : UInt8), (8 : UInt8), (8 : UInt8), (8 : UInt8), (8 : UInt8), (8 : UInt8), (8 : UInt8), (8 : UInt8), (8 : UInt8), (8 : UInt8), (8 : UInt8), (8 : UInt8), (8 : UInt8), (8 : UInt8), (8 : UInt8), (8 : UInt8), (8 : UInt8), (8 : UInt8), (8 : UInt8), (8 : UInt8), (8 : UInt8), (8 : UInt8), (8 : UInt8), (8 : UInt8), (8 : UInt8), (8 : UInt8), (8 : UInt8), (8 : UInt8), (8 : UInt8), (8 : UInt8), (8 : UInt8), (8 : UInt8), (8 : UInt8), (8 : UInt8), (8 : UInt8), (8 : UInt8), (8 : UInt8), (8 : UInt8), (8 : UInt8), (8 : UInt8), (8 : UInt8), (8 : UInt8), (8 : UInt8), (8 : UInt8), (8 : UInt8), (8 : UInt8), (8 : UInt8), (8 : UInt8), (8 : UInt8), (8 : UInt8), (8 : UInt8), (8 : UInt8), (8 : UInt8), (8 : UInt8), (8 : UInt8)] : List UInt8) ([(8 : UInt8), (8 : UInt8), (8 : UInt8), (8 : UInt8), (8 : UInt8), (8 : UInt8), (8 : UInt8), (8 : UInt8), (8 : UInt8), (8 : UInt8), (8 : UInt8), (8 : UInt8), (8 : UInt8), (8 : UInt8), (8 : UInt8), (8 : UInt8), (8 : UInt8), (8 : UInt8), (8 : UInt8), (8 : UInt8), (8 : UInt8), (8 : UInt8), (8 : UInt8), (8 : UInt8), (8 : UInt8), (8 : UInt8), (8 : UInt8), (8 : UInt8), (8 : UInt8), (8 : UInt8), (8 : UInt8), (8 : UInt8), (8 : UInt8), (8 : UInt8), (8 : UInt8), (8 : UInt8), (8 : UInt8), (8 : UInt8), (8 : UInt8), (8 : UInt8), (8 : UInt8), (8 : UInt8), (8 : UInt8), (8 : UInt8), (8 : UInt8), (8 : UInt8), (8 : UInt8), (8 : UInt8), (8 : UInt8), (8 : UInt8), (8 : UInt8), (8 : UInt8), (8 : UInt8), (8 : UInt8), (8 : UInt8), (8 : UInt8), (8 : UInt8), (8 : UInt8), (8 : UInt8), (8 : UInt8), (8 : UInt8), (8 : UInt8), (8 : UInt8), (8 : UInt8)] : List UInt8)))))))) : Nat) : Int))) ∧ (Q (bits_Len64_enc (w64 ((56 : Int) + (((UInt8.toNat (List.getD (Array.toList (ByteArray.data (ByteArray.mk (List.toArray (List.append (List.append ([(0 : UInt8), (1 : UInt8), (2 : UInt8), (2 : UInt8), (3 : UInt8), (3 : UInt8), (3 : UInt8), (3 : UInt8), (4 : UInt8), (4 : UInt8), (4 : UInt8), (4 : UInt8), (4 : UInt8), (4 : UInt8), (4 : UInt8), (4 : UInt8), (5 : UInt8), (5 : UInt8), (5 : UInt8), (5 : UInt8), (5 : UInt8), (5 : UInt8), (5 : UInt8), (5 : UInt8), (5 : UInt8), (5 : UInt8), (5 : UInt8), (5 : UInt8), (5 : UInt8), (5 : UInt8), (5 : UInt8), (5 : UInt8), (6 : UInt8), (6 : UInt8), (6 : UInt8), (6 : UInt8), (6 : UInt8), (6 : UInt8), (6 : UInt8), (6 : UInt8), (6 : UInt8), (6 : UInt8), (6 : UInt8), (6 : UInt8), (6 : UInt8), (6 : UInt8), (6 : UInt8), (6 : UInt8), (6 : UInt8), (6 : UInt8), (6 : UInt8), (6 : UInt8), (6 : UInt8), (6 : UInt8), (6 : UInt8), (6 : UInt8), (6 : UInt8), (6 : UInt8), (6 : UInt8), (6 : UInt8), (6 : UInt8), (6 : UInt8), (6 : UInt8), (6 : UInt8)] : List UInt8) ([(7 : UInt8), (7 : UInt8), (7 : UInt8), (7 : UInt8), (7 : UInt8), (7 : UInt8), (7 : UInt8), (7 : UInt8), (7 : UInt8), (7 : UInt8), (7 : UInt8), (7 : UInt8), (7 : UInt8), (7 : UInt8), (7 : UInt8), (7 : UInt8), (7 : UInt8), (7 : UInt8), (7 : UInt8), (7 : UInt8), (7 : UInt8), (7 : UInt8), (7 : UInt8), (7 : UInt8), (7 : UInt8), (7 : UInt8), (7 : UInt8), (7 : UInt8), (7 : UInt8), (7 : UInt8), (7 : UInt8), (7 : UInt8), (7 : UInt8), (7 : UInt8), (7 : UInt8), (7 : UInt8), (7 : UInt8), (7 : UInt8), (7 : UInt8), (7 : UInt8), (7 : UInt8), (7 : UInt8), (7 : UInt8), (7 : UInt8), (7 : UInt8), (7 : UInt8), (7 : UInt8), (7 : UInt8), (7 : UInt8), (7 : UInt8), (7 : UInt8), (7 : UInt8), (7 : UInt8), (7 : UInt8), (7 : UInt8), (7 : UInt8), (7 : UInt8), (7 : UInt8), (7 : UInt8), (7 : UInt8), (7 : UInt8), (7 : UInt8), (7 : UInt8), (7 : UInt8)] : List UInt8)) (List.append ([(8 : UInt8), (8 : UInt8), (8 : UInt8), (8 : UInt8), (8 : UInt8), (8 : UInt8), (8 : UInt8), (8 : UInt8), (8 : UInt8), (8 : UInt8), (8 : UInt8), (8 : UInt8), (8 : UInt8), (8 : UInt8), (8 : UInt8), (8 : UInt8), (8 : UInt8), (8 : UInt8), (8 : UInt8), (8 : UInt8), (8 : UInt8), (8 : UInt8), (8 : UInt8), (8 : UInt8), (8 : UInt8), (8 : UInt8), (8 : UInt8), (8 : UInt8), (8 : UInt8), (8 : UInt8), (8 : UInt8), (8 : UInt8), (8 : UInt8), (8 : UInt8), (8 : UInt8), (8 : UInt8), (8 : UInt8), (8 : UInt8), (8 : UInt8), (8 : UInt8), (8 : UInt8), (8 : UInt8), (8 : UInt8), (8 : UInt8), (8 : UInt8), (8 : UInt8), (8 : UInt8), (8 : UInt8), (8 : UInt8), (8 : UInt8), (8 : UInt8), (8 : UInt8), (8 : UInt8), (8 : UInt8), (8 : UInt8), (8 : UInt8), (8 : UInt8), (8 : UInt8), (8 : UInt8), (8 : UInt8), (8 : UInt8), (8 : UInt8), (8 : UInt8), (8 : UInt8)] : List UInt8) ([(8 : UInt8), (8 : UInt8), (8 : UInt8), (8 : UInt8), (8 : UInt8), (8 : UInt8), (8 : UInt8), (8 : UInt8), (8 : UInt8), (8 : UInt8), (8 : UInt8), (8 : UInt8), (8 : UInt8), (8 : UInt8), (8 : UInt8), (8 : UInt8), (8 : UInt8), (8 : UInt8), (8 : UInt8), (8 : UInt8), (8 : UInt8), (8 : UInt8), (8 : UInt8), (8 : UInt8), (8 : UInt8), (8 : UInt8), (8 : UInt8), (8 : UInt8), (8 : UInt8), (8 : UInt8), (8 : UInt8), (8 : UInt8), (8 : UInt8), (8 : UInt8), (8 : UInt8), (8 : UInt8), (8 : UInt8), (8 : UInt8), (8 : UInt8), (8 : UInt8), (8 : UInt8), (8 : UInt8), (8 : UInt8), (8 : UInt8), (8 : UInt8), (8 : UInt8), (8 : UInt8), (8 : UInt8), (8 : UInt8), (8 : UInt8), (8 : UInt8), (8 : UInt8), (8 : UInt8), (8 : UInt8), (8 : UInt8), (8 : UInt8), (8 : UInt8), (8 : UInt8), (8 : UInt8), (8 : UInt8), (8 : UInt8), (8 : UInt8), (8 : UInt8), (8 : UInt8)] : List UInt8))))))) (Int.toNat (((UInt8.toNat (UInt64.toUInt8 (shr_u64 (shr_u64 (shr_u64 x_0 (32 : Nat)) (16 : Nat)) (8 : Nat)))) : Nat) : Int)) (0 : UInt8))) : Nat) : Int)))))) ((((0 : Int) ≤ (((UInt8.toNat (UInt64.toUInt8 (shr_u64 (shr_u64 x_0 (32 : Nat)) (16 : Nat)))) : Nat) : Int)) ∧ ((((UInt8.toNat (UInt64.toUInt8 (shr_u64 (shr_u64 x_0 (32 : Nat)) (16 : Nat)))) : Nat) : Int) < (((List.length (Array.toList (ByteArray.data (ByteArray.mk (List.toArray (List.append (List.append ([(0 : UInt8), (1 : UInt8), (2 : UInt8), (2 : UInt8), (3 : UInt8), (3 : UInt8), (3 : UInt8), (3 : UInt8), (4 : UInt8), (4 : UInt8), (4 : UInt8), (4 : UInt8), (4 : UInt8), (4 : UInt8), (4 : UInt8), (4 : UInt8), (5 : UInt8), (5 : UInt8), (5 : UInt8), (5 : UInt8), (5 : UInt8), (5 : UInt8), (5 : UInt8), (5 : UInt8), (5 : UInt8), (5 : UInt8), (5 : UInt8), (5 : UInt8), (5 : UInt8), (5 : UInt8), (5 : UInt8), (5 : UInt8), (6 : UInt8), (6 : UInt8), (6 : UInt8), (6 : UInt8), (6 : UInt8), (6 : UInt8), (6 : UInt8), (6 : UInt8), (6 : UInt8), (6 : UInt8), (6 : UInt8), (6 : UInt8), (6 : UInt8), (6 : UInt8), (6 : UInt8), (6 : UInt8), (6 : UInt8), (6 : UInt8), (6 : UInt8), (6 : UInt8), (6 : UInt8), (6 : UInt8), (6 : UInt8), (6 : UInt8), (6 : UInt8), (6 : UInt8), (6 : UInt8), (6 : UInt8), (6 : UInt8), (6 : UInt8), (6 : UInt8), (6 : UInt8)] : List UInt8) ([(7 : UInt8), (7 : UInt8), (7 : UInt8), (7 : UInt8), (7 : UInt8), (7 : UInt8), (7 : UInt8), (7 : UInt8), (7 : UInt8), (7 : UInt8), (7 : UInt8), (7 : UInt8), (7 : UInt8), (7 : UInt8), (7 : UInt8), (7 : UInt8), (7 : UInt8), (7 : UInt8), (7 : UInt8), (7 : UInt8), (7 : UInt8), (7 : UInt8), (7 : UInt8), (7 : UInt8), (7 : UInt8), (7 : UInt8), (7 : UInt8), (7 : UInt8), (7 : UInt8), (7 : UInt8), (7 : UInt8), (7 : UInt8), (7 : UInt8), (7 : UInt8), (7 : UInt8), (7 : UInt8), (7 : UInt8), (7 : UInt8), (7 : UInt8), (7 : UInt8), (7 : UInt8), (7 : UInt8), (7 : UInt8), (7 : UInt8), (7 : UInt8), (7 : UInt8), (7 : UInt8), (7 : UInt8), (7 : UInt8), (7 : UInt8), (7 : UInt8), (7 : UInt8), (7 : UInt8), (7 : UInt8), (7 : UInt8), (7 : UInt8), (7 : UInt8), (7 : UInt8), (7 : UInt8), (7 : UInt8), (7 : UInt8), (7 : UInt8), (7 : UInt8), (7 : UInt8)] : List UInt8)) (List.append ([(8 : UInt8), (8 : UInt8), (8 : UInt8), (8 : UInt8), (8 : UInt8), (8 : UInt8), (8 : UInt8), (8 : UInt8), (8 : UInt8), (8 : UInt8), (8 : UInt8), (8 : UInt8), (8 : UInt8), (8 : UInt8), (8 : UInt8), (8 : UInt8), (8 : UInt8), (8 : UInt8), (8 : UInt8), (8 : UInt8), (8 : UInt8), (8 : UInt8), (8 : UInt8), (8 : UInt8), (8 : UInt8), (8 : UInt8), (8 : UInt8), (8 : UInt8), (8 : UInt8), (8 : UInt8), (8 : UInt8), (8 : UInt8), (8 : UInt8), (8 : UInt8), (8 : UInt8), (8 : UInt8), (8 : UInt8), (8 : UInt8), (8 : UInt8), (8 : UInt8), (8 : UInt8), (8 : UInt8), (8 : UInt8), (8 : UInt8), (8 : UInt8), (8 : UInt8), (8 : UInt8), (8 : UInt8), (8 : UInt8), (8 : UInt8), (8 : UInt8), (8 : UInt8), (8 : UInt8), (8 : UInt8), (8 : UInt8), (8 : UInt8), (8 : UInt8), (8 : UInt8), (8 : UInt8), (8 : UInt8), (8 : UInt8), (8 : UInt8), (8 : UInt8), (8 : UInt8)] : List UInt8) ([(8 : UInt8), (8 : UInt8), (8 : UInt8), (8 : UInt8), (8 : UInt8), (8 : UInt8), (8 : UInt8), (8 : UInt8), (8 : UInt8), (8 : UInt8), (8 : UInt8), (8 : UInt8), (8 : UInt8), (8 : UInt8), (8 : UInt8), (8 : UInt8), (8 : UInt8), (8 : UInt8), (8 : UInt8), (8 : UInt8), (8 : UInt8), (8 : UInt8), (8 : UInt8), (8 : UInt8), (8 : UInt8), (8 : UInt8), (8 : UInt8), (8 : UInt8), (8 : UInt8), (8 : UInt8), (8 : UInt8), (8 : UInt8), (8 : UInt8), (8 : UInt8), (8 : UInt8), (8 : UInt8), (8 : UInt8), (8 : UInt8), (8 : UInt8), (8 : UInt8), (8 : UInt8), (8 : UInt8), (8 : UInt8), (8 : UInt8), (8 : UInt8), (8 : UInt8), (8 : UInt8), (8 : UInt8), (8 : UInt8), (8 : UInt8), (8 : UInt8), (8 : UInt8), (8 : UInt8), (8 : UInt8), (8 : UInt8), (8 : UInt8), (8 : UInt8), (8 : UInt8), (8 : UInt8), (8 : UInt8), (8 : UInt8), (8 : UInt8), (8 : UInt8), (8 : UInt8)] : List UInt8)))))))) : Nat) : Int))) ∧ (Q (bits_Len64_enc (w64 ((48 : Int) + (((UInt8.toNat (List.getD (Array.toList (ByteArray.data (ByteArray.mk (List.toArray (List.append (List.append ([(0 : UInt8), (1 : UInt8), (2 : UInt8), (2 : UInt8), (3 : UInt8), (3 : UInt8), (3 : UInt8), (3 : UInt8), (4 : UInt8), (4 : UInt8), (4 : UInt8), (4 : UInt8), (4 : UInt8), (4 : UInt8), (4 : UInt8), (4 : UInt8), (5 : UInt8), (5 : UInt8), (5 : UInt8), (5 : UInt8), (5 : UInt8), (5 : UInt8), (5 : UInt8), (5 : UInt8), (5 : UInt8), (5 : UInt8), (5 : UInt8), (5 : UInt8), (5 : UInt8), (5 : UInt8), (5 : UInt8), (5 : UInt8), (6 : UInt8), (6 : UInt8), (6 : UInt8), (6 : UInt8), (6 : UInt8), (6 : UInt8), (6 : UInt8), (6 : UInt8), (6 : UInt8), (6 : UInt8), (6 : UInt8), (6 : UInt8), (6 : UInt8), (6 : UInt8), (6 : UInt8), (6 : UInt8), (6 : UInt8), (6 : UInt8), (6 : UInt8), (6 : UInt8), (6 : UInt8), (6 : UInt8), (6 : UInt8), (6 : UInt8), (6 : UInt8), (6 : UInt8), (6 : UInt8), (6 : UInt8), (6 : UInt8), (6 : UInt8), (6 : UInt8), (6 : UInt8)] : List UInt8) ([(7 : UInt8), (7 : UInt8), (7 : UInt8), (7 : UInt8), (7 : UInt8), (7 : UInt8), (7 : UInt8), (7 : UInt8), (7 : UInt8), (7 : UInt8), (7 : UInt8), (7 : UInt8), (7 : UInt8), (7 : UInt8), (7 : UInt8), (7 : UInt8), (7 : UInt8), (7 : UInt8), (7 : UInt8), (7 : UInt8), (7 : UInt8), (7 : UInt8), (7 : UInt8), (7 : UInt8), (7 : UInt8), (7 : UInt8), (7 : UInt8), (7 : UInt8), (7 : UInt8), (7 : UInt8), (7 : UInt8), (7 : UInt8), (7 : UInt8), (7 : UInt8), (7 : UInt8), (7 : UInt8), (7 : UInt8), (7 : UInt8), (7 : UInt8), (7 : UInt8), (7 : UInt8), (7 : UInt8), (7 : UInt8), (7 : UInt8), (7 : UInt8), (7 : UInt8), (7 : UInt8), (7 : UInt8), (7 : UInt8), (7 : UInt8), (7 : UInt8), (7 : UInt8), (7 : UInt8), (7 : UInt8), (7 : UInt8), (7 : UInt8), (7 : UInt8), (7 : UInt8), (7 : UInt8), (7 : UInt8), (7 : UInt8), (7 : UInt8), (7 : UInt8), (7 : UInt8)] : List UInt8)) (List.append ([(8 : UInt8), (8 : UInt8), (8 : UInt8), (8 : UInt8), (8 : UInt8), (8 : UInt8), (8 : UInt8), (8 : UInt8), (8 : UInt8), (8 : UInt8), (8 : UInt8), (8 : UInt8), (8 : UInt8), (8 : UInt8), (8 : UInt8), (8 : UInt8), (8 : UInt8), (8 : UInt8), (8 : UInt8), (8 : UInt8), (8 : UInt8), (8 : UInt8), (8 : UInt8), (8 : UInt8), (8 : UInt8), (8 : UInt8), (8 : UInt8), (8 : UInt8), (8 : UInt8), (8 : UInt8), (8 : UInt8), (8 : UInt8), (8 : UInt8), (8 : UInt8), (8 : UInt8), (8 : UInt8), (8 : UInt8), (8 : UInt8), (8 : UInt8), (8 : UInt8), (8 : UInt8), (8 : UInt8), (8 : UInt8), (8 : UInt8), (8 : UInt8), (8 : UInt8), (8 : UInt8), (8 : UInt8), (8 : UInt8), (8 : UInt8), (8 : UInt8), (8 : UInt8), (8 : UInt8), (8 : UInt8), (8 : UInt8), (8 : UInt8), (8 : UInt8), (8 : UInt8), (8 : UInt8), (8 : UInt8), (8 : UInt8), (8 : UInt8), (8 : UInt8), (8 : UInt8)] : List UInt8) ([(8 : UInt8), (8 : UInt8), (8 : UInt8), (8 : UInt8), (8 : UInt8), (8 : UInt8), (8 : UInt8), (8 : UInt8), (8 : UInt8), (8 : UInt8), (8 : UInt8), (8 : UInt8), (8 : UInt8), (8 : UInt8), (8 : UInt8), (8 : UInt8), (8 : UInt8), (8 : UInt8), (8 : UInt8), (8 : UInt8), (8 : UInt8), (8 : UInt8), (8 : UInt8), (8 : UInt8), (8 : UInt8), (8 : UInt8), (8 : UInt8), (8 : UInt8), (8 : UInt8), (8 : UInt8), (8 : UInt8), (8 : UInt8), (8 : UInt8), (8 : UInt8), (8 : UInt8), (8 : UInt8), (8 : UInt8), (8 : UInt8), (8 : UInt8), (8 : UInt8), (8 : UInt8), (8 : UInt8), (8 : UInt8), (8 : UInt8), (8 : UInt8), (8 : UInt8), (8 : UInt8), (8 : UInt8), (8 : UInt8), (8 : UInt8), (8 : UInt8), (8 : UInt8), (8 : UInt8), (8 : UInt8), (8 : UInt8), (8 : UInt8), (8 : UInt8), (8 : UInt8), (8 : UInt8), (8 : UInt8), (8 : UInt8), (8 : UInt8), (8 : UInt8), (8 : UInt8)] : List UInt8))))))) (Int.toNat (((UInt8.toNat (UInt64.toUInt8 (shr_u64 (shr_u64 x_0 (32 : Nat)) (16 : Nat)))) : Nat) : Int)) (0 : UInt8))) : Nat) : Int))))))) (condP (decide ((256 : UInt64) ≤ (shr_u64 x_0 (32 : Nat)))) ((((0 : Int) ≤ (((UInt8.toNat (UInt64.toUInt8 (shr_u64 (shr_u64 x_0 (32 : Nat)) (8 : Nat)))) : Nat) : Int)) ∧ ((((UInt8.toNat (UInt64.toUInt8 (shr_u64 (shr_u64 x_0 (32 : Nat)) (8 : Nat)))) : Nat) : Int) < (((List.length (Array.toList (ByteArray.data (ByteArray.mk (List.toArray (List.append (List.append ([(0 : UInt8), (1 : UInt8), (2 : UInt8), (2 : UInt8), (3 : UInt8), (3 : UInt8), (3 : UInt8), (3 : UInt8), (4 : UInt8), (4 : UInt8), (4 : UInt8), (4 : UInt8), (4 : UInt8), (4 : UInt8), (4 : UInt8), (4 : UInt8), (5 : UInt8), (5 : UInt8), (5 : UInt8), (5 : UInt8), (5 : UInt8), (5 : UInt8), (5 : UInt8), (5 : UInt8), (5 : UInt8), (5 : UInt8), (5 : UInt8), (5 : UInt8), (5 : UInt8), (5 : UInt8), (5 : UInt8), (5 : UInt8), (6 : UInt8), (6 : UInt8), (6 : UInt8), (6 : UInt8), (6 : UInt8), (6 : UInt8), (6 : UInt8), (6 : UInt8), (6 : UInt8), (6 : UInt8), (6 : UInt8), (6 : UInt8), (6 : UInt8), (6 : UInt8), (6 : UInt8), (6 : UInt8), (6 : UInt8), (6 : UInt8), (6 : UInt8), (6 : UInt8), (6 : UInt8), (6 : UInt8), (6 : UInt8), (6 : UInt8), (6 : UInt8), (6 : UInt8), (6 : UInt8), (6 : UInt8), (6 : UInt8), (6 : UInt8), (6 : UInt8), (6 : UInt8)] : List UInt8) ([(7 : UInt8), (7 : UInt8), (7 : UInt8), (7 : UInt8), (7 : UInt8), (7 : UInt8), (7 : UInt8), (7 : UInt8), (7 : UInt8), (7 : UInt8), (7 : UInt8), (7 : UInt8), (7 : UInt8), (7 : UInt8), (7 : UInt8), (7 : UInt8), (7 : UInt8), (7 : UInt8), (7 : UInt8), (7 : UInt8), (7 : UInt8), (7 : UInt8), (7 : UInt8), (7 : UInt8), (7 : UInt8), (7 : UInt8), (7 : UInt8), (7 : UInt8), (7 : UInt8), (7 : UInt8), (7 : UInt8), (7 : UInt8), (7 : UInt8), (7 : UInt8), (7 : UInt8), (7 : UInt8), (7 : UInt8), (7 : UInt8), (7 : UInt8), (7 : UInt8), (7 : UInt8), (7 : UInt8), (7 : UInt8), (7 : UInt8), (7 : UInt8), (7 : UInt8), (7 : UInt8), (7 : UInt8), (7 : UInt8), (7 : UInt8), (7 : UInt8), (7 : UInt8), (7 : UInt8), (7 : UInt8), (7 : UInt8), (7 : UInt8), (7 : UInt8), (7 : UInt8), (7 : UInt8), (7 : UInt8), (7 : UInt8), (7 : UInt8), (7 : UInt8), (7 : UInt8)] : List UInt8)) (List.append ([(8 : UInt8), (8 : UInt8), (8 : UInt8), (8 : UInt8), (8 : UInt8), (8 : UInt8), (8 : UInt8), (8 : UInt8), (8 : UInt8), (8 : UInt8), (8 : UInt8), (8 : UInt8), (8 : UInt8), (8 : UInt8), (8 : UInt8), (8 : UInt8), (8 : UInt8), (8 : UInt8), (8 : UInt8), (8 : UInt8), (8 : UInt8), (8 : UInt8), (8 : UInt8), (8 : UInt8), (8 : UInt8), (8 : UInt8), (8 : UInt8), (8 : UInt8), (8 : UInt8), (8 : UInt8), (8 : UInt8), (8 : UInt8), (8 : UInt8), (8 : UInt8), (8 : UInt8), (8 : UInt8), (8 : UInt8), (8 : UInt8), (8 : UInt8), (8 : UInt8), (8 : UInt8), (8 : UInt8), (8 : UInt8), (8 : UInt8), (8 : UInt8), (8 : UInt8), (8 : UInt8), (8 : UInt8), (8 : UInt8), (8 : UInt8), (8 : UInt8), (8 : UInt8), (8 : UInt8), (8 : UInt8), (8 : UInt8), (8 : UInt8), (8 : UInt8), (8 : UInt8), (8 : UInt8), (8 : UInt8), (8 : UInt8), (8 : UInt8), (8 : UInt8), (8 : UInt8)] : List UInt8) ([(8 : UInt8), (8 : UInt8), (8 : UInt8), (8 : UInt8), (8 : UInt8), (8 : UInt8), (8 : UInt8), (8 : UInt8), (8 : UInt8), (8 : UInt8), (8 : UInt8), (8 : UInt8), (8 : UInt8), (8 : UInt8), (8 : UInt8), (8 : UInt8), (8 : UInt8), (8 : UInt8), (8 : UInt8), (8 : UInt8), (8 : UInt8), (8 : UInt8), (8 : UInt8), (8 : UInt8), (8 : UInt8), (8 : UInt8), (8 : UInt8), (8 : UInt8), (8 : UInt8), (8 : UInt8), (8 : UInt8), (8 : UInt8), (8 : UInt8), (8 : UInt8), (8 : UInt8), (8 : UInt8), (8 : UInt8), (8 : UInt8), (8 : UInt8), (8 : UInt8), (8 : UInt8), (8 : UInt8), (8 : UInt8), (8 : UInt8), (8 : UInt8), (8 : UInt8), (8 : UInt8), (8 : UInt8), (8 : UInt8), (8 : UInt8), (8 : UInt8), (8 : UInt8), (8 : UInt8), (8 : UInt8), (8 : UInt8), (8 : UInt8), (8 : UInt8), (8 : UInt8), (8 : UInt8), (8 : UInt8), (8 : UInt8), (8 : UInt8), (8 : UInt8), (8 : UInt8)] : List UInt8)))))))) : Nat) : Int))) ∧ (Q (bits_Len64_enc (w64 ((40 : Int) + (((UInt8.toNat (List.getD (Array.toList (ByteArray.data (ByteArray.mk (List.toArray (List.append (List.append ([(0 : UInt8), (1 : UInt8), (2 : UInt8), (2 : UInt8), (3 : UInt8), (3 : UInt8), (3 : UInt8), (3 : UInt8), (4 : UInt8), (4 : UInt8), (4 : UInt8), (4 : UInt8), (4 : UInt8), (4 : UInt8), (4 : UInt8), (4 : UInt8), (5 : UInt8), (5 : UInt8), (5 : UInt8), (5 : UInt8), (5 : UInt8), (5 : UInt8), (5 : UInt8), (5 : UInt8), (5 : UInt8), (5 : UInt8), (5 : UInt8), (5 : UInt8), (5 : UInt8), (5 : UInt8), (5 : UInt8), (5 : UInt8), (6 : UInt8), (6 : UInt8), (6 : UInt8), (6 : UInt8), (6 : UInt8), (6 : UInt8), (6 : UInt8), (6 : UInt8), (6 : UInt8), (6 : UInt8), (6 : UInt8), (6 : UInt8), (6 : UInt8), (6 : UInt8), (6 : UInt8), (6 : UInt8), (6 : UInt8), (6 : UInt8), (6 : UInt8), (6 : UInt8), (6 : UInt8), (6 : UInt8), (6 : UInt8), (6 : UInt8), (6 : UInt8), (6 : UInt8), (6 : UInt8), (6 : UInt8), (6 : UInt8), (6 : UInt8), (6 : UInt8), (6 : UInt8)] : List UInt8) ([(7 : UInt8), (7 : UInt8), (7 : UInt8), (7 : UInt8), (7 : UInt8), (7 : UInt8), (7 : UInt8), (7 : UInt8), (7 : UInt8), (7 : UInt8), (7 : UInt8), (7 : UInt8), (7 : UInt8), (7 : UInt8), (7 : UInt8), (7 : UInt8), (7 : UInt8), (7 : UInt8), (7 : UInt8), (7 : UInt8), (7 : UInt8), (7 : UInt8), (7 : UInt8), (7 : UInt8), (7 : UInt8), (7 : UInt8), (7 : UInt8), (7 : UInt8), (7 : UInt8), (7 : UInt8), (7 : UInt8), (7 : UInt8), (7 : UInt8), (7 : UInt8), (7 : UInt8), (7 : UInt8), (7 : UInt8), (7 : UInt8), (7 : UInt8), (7 : UInt8), (7 : UInt8), (7 : UInt8), (7 : UInt8), (7 : UInt8), (7 : UInt8), (7 : UInt8), (7 : UInt8), (7 : UInt8), (7 : UInt8), (7 : UInt8), (7 : UInt8), (7 : UInt8), (7 : UInt8), (7 : UInt8), (7 : UInt8), (7 : UInt8), (7 : UInt8), (7 : UInt8), (7 : UInt8), (7 : UInt8), (7 : UInt8), (7 : UInt8), (7 : UInt8), (7 : UInt8)] : List UInt8)) (List.append ([(8 : UInt8), (8 : UInt8), (8 : UInt8), (8 : UInt8), (8 : UInt8), (8 : UInt8), (8 : UInt8), (8 : UInt8), (8 : UInt8), (8 : UInt8), (8 : UInt8), (8 : UInt8), (8 : UInt8), (8 : UInt8), (8 : UInt8), (8 : UInt8), (8 : UInt8), (8 : UInt8), (8 : UInt8), (8 : UInt8), (8 : UInt8), (8 : UInt8), (8 : UInt8), (8 : UInt8), (8 : UInt8), (8 : UInt8), (8 : UInt8), (8 : UInt8), (8 : UInt8), (8 : UInt8), (8 : UInt8), (8 : UInt8), (8 : UInt8), (8 : UInt8), (8 : UInt8), (8 : UInt8), (8 : UInt8), (8 : UInt8), (8 : UInt8), (8 : UInt8), (8 : UInt8), (8 : UInt8), (8 : UInt8), (8 : UInt8), (8 : UInt8), (8 : UInt8), (8 : UInt8), (8 : UInt8), (8 : UInt8), (8 : UInt8), (8 : UInt8), (8 : UInt8), (8 : UInt8), (8 : UInt8), (8 : UInt8), (8 : UInt8), (8 : UInt8), (8 : UInt8), (8 : UInt8), (8 : UInt8), (8 : UInt8), (8 : UInt8), (8 : UInt8), (8 : UInt8)] : List UInt8) ([(8 : UInt8), (8 : UInt8), (8 : UInt8), (8 : UInt8), (8 : UInt8), (8 : UInt8), (8 : UInt8), (8 : UInt8), (8 : UInt8), (8 : UInt8), (8 : UInt8), (8 : UInt8), (8 : UInt8), (8 : UInt8), (8 : UInt8), (8 : UInt8), (8 : UInt8), (8 : UInt8), (8 : UInt8), (8 : UInt8), (8 : UInt8), (8 : UInt8), (8 : UInt8), (8 : UInt8), (8 : UInt8), (8 : UInt8), (8 : UInt8), (8 : UInt8), (8 : UInt8), (8 : UInt8), (8 : UInt8), (8 : UInt8), (8 : UInt8), (8 : UInt8), (8 : UInt8), (8 : UInt8), (8 : UInt8), (8 : UInt8), (8 : UInt8), (8 : UInt8), (8 : UInt8), (8 : UInt8), (8 : UInt8), (8 : UInt8), (8 : UInt8), (8 : UInt8), (8 : UInt8), (8 : UInt8), (8 : UInt8), (8 : UInt8), (8 : UInt8), (8 : UInt8), (8 : UInt8), (8 : UInt8), (8 : UInt8), (8 : UInt8), (8 : UInt8), (8 : UInt8), (8 : UInt8), (8 : UInt8), (8 : UInt8), (8 : UInt8), (8 : UInt8), (8 : UInt8)] : List UInt8))))))) (Int.toNat (((UInt8.toNat (UInt64.toUInt8 (shr_u64 (shr_u64 x_0 (32 : Nat)) (8 : Nat)))) : Nat) : Int)) (0 : UInt8))) : Nat) : Int)))))) ((((0 : Int) ≤ (((UInt8.toNat (UInt64.toUInt8 (shr_u64 x_0 (32 : Nat)))) : Nat) : Int)) ∧ ((((UInt8.toNat (UInt64.toUInt8 (shr_u64 x_0 (32 : Nat)))) : Nat) : Int) < (((List.length (Array.toList (ByteArray.data (ByteArray.mk (List.toArray (List.append (List.append ([(0 : UInt8), (1 : UInt8), (2 : UInt8), (2 : UInt8), (3 : UInt8), (3 : UInt8), (3 : UInt8), (3 : UInt8), (4 : UInt8), (4 : UInt8), (4 : UInt8), (4 : UInt8), (4 : UInt8), (4 : UInt8), (4 : UInt8), (4 : UInt8), (5 : UInt8), (5 : UInt8), (5 : UInt8), (5 : UInt8), (5 : UInt8), (5 : UInt8), (5 : UInt8), (5 : UInt8), (5 : UInt8), (5 : UInt8), (5 : UInt8), (5 : UInt8), (5 : UInt8), (5 : UInt8), (5 : UInt8), (5 : UInt8), (6 : UInt8), (6 : UInt8), (6 : UInt8), (6 : UInt8), (6 : UInt8), (6 : UInt8), (6 : UInt8), (6 : UInt8), (6 : UInt8), (6 : UInt8), (6 : UInt8), (6 : UInt8), (6 : UInt8), (6 : UInt8), (6 : UInt8), (6 : UInt8), (6 : UInt8), (6 : UInt8), (6 : UInt8), (6 : UInt8), (6 : UInt8), (6 : UInt8), (6 : UInt8), (6 : UInt8), (6 : UInt8), (6 : UInt8), (6 : UInt8), (6 : UInt8), (6 : UInt8), (6 : UInt8), (6 : UInt8), (6 : UInt8)] : List UInt8) ([(7 : UInt8), (7 : UInt8), (7 : UInt8), (7 : UInt8), (7 : UInt8), (7 : UInt8), (7 : UInt8), (7 : UInt8), (7 : UInt8), (7 : UInt8), (7 : UInt8), (7 : UInt8), (7 : UInt8), (7 : UInt8), (7 : UInt8), (7 : UInt8), (7 : UInt8), (7 : UInt8), (7 : UInt8), (7 : UInt8), (7 : UInt8), (7 : UInt8), (7 : UInt8), (7 : UInt8), (7 : UInt8), (7 : UInt8), (7 : UInt8), (7 : UInt8), (7 : UInt8), (7 : UInt8), (7 : UInt8), (7 : UInt8), (7 : UInt8), (7 : UInt8), (7 : UInt8), (7 : UInt8), (7 : UInt8), (7 : UInt8), (7 : UInt8), (7 : UInt8), (7 : UInt8), (7 : UInt8), (7 : UInt8), (7 : UInt8), (7 : UInt8), (7 : UInt8), (7 : UInt8), (7 : UInt8), (7 : UInt8), (7 : UInt8), (7 : UInt8), (7 : UInt8), (7 : UInt8), (7 : UInt8), (7 : UInt8), (7 : UInt8), (7 : UInt8), (7 : UInt8), (7 : UInt8), (7 : UInt8), (7 : UInt8), (7 : UInt8), (7 : UInt8), (7 : UInt8)] : List UInt8)) (List.append ([(8 : UInt8), (8 : UInt8), (8 : UInt8), (8 : UInt8), (8 : UInt8), (8 : UInt8), (8 : UInt8), (8 : UInt8), (8 : UInt8), (8 : UInt8), (8 : UInt8), (8 : UInt8), (8 : UInt8), (8 : UInt8), (8 : UInt8), (8 : UInt8), (8 : UInt8), (8 : UInt8), (8 : UInt8), (8 : UInt8), (8 : UInt8), (8 : UInt8), (8 : UInt8), (8 : UInt8), (8 : UInt8), (8 : UInt8), (8 : UInt8), (8 : UInt8), (8 : UInt8), (8 : UInt8), (8 : UInt8), (8 : UInt8), (8 : UInt8), (8 : UInt8), (8 : UInt8), (8 : UInt8), (8 : UInt8), (8 : UInt8), (8 : UInt8), (8 : UInt8), (8 : UInt8), (8 : UInt8), (8 : UInt8), (8 : UInt8), (8 : UInt8), (8 : UInt8), (8 : UInt8), (8 : UInt8), (8 : UInt8), (8 : UInt8), (8 : UInt8), (8 : UInt8), (8 : UInt8), (8 : UInt8), (8 : UInt8), (8 : UInt8), (8 : UInt8), (8 : UInt8), (8 : UInt8), (8 : UInt8), (8 : UInt8), (8 : UInt8), (8 : UInt8), (8 : UInt8)] : List UInt8) ([(8 : UInt8), (8 : UInt8), (8 : UInt8), (8 : UInt8), (8 : UInt8), (8 : UInt8), (8 : UInt8), (8 : UInt8), (8 : UInt8), (8 : UInt8), (8 : UInt8), (8 : UInt8), (8 : UInt8), (8 : UInt8), (8 : UInt8), (8 : UInt8), (8 : UInt8), (8 : UInt8), (8 : UInt8), (8 : UInt8), (8 : UInt8), (8 : UInt8), (8 : UInt8), (8 : UInt8), (8 : UInt8), (8 : UInt8), (8 : UInt8), (8 : UInt8), (8 : UInt8), (8 : UInt8), (8 : UInt8), (8 : UInt8), (8 : UInt8), (8 : UInt8), (8 : UInt8), (8 : UInt8), (8 : UInt8), (8 : UInt8), (8 : UInt8), (8 : UInt8), (8 : UInt8), (8 : UInt8), (8 : UInt8), (8 : UInt8), (8 : UInt8), (8 : UInt8), (8 : UInt8), (8 : UInt8), (8 : UInt8), (8 : UInt8), (8 : UInt8), (8 : UInt8), (8 : UInt8), (8 : UInt8), (8 : UInt8), (8 : UInt8), (8 : UInt8), (8 : UInt8), (8 : UInt8), (8 : UInt8), (8 : UInt8), (8 : UInt8), (8 : UInt8), (8 : UInt8)] : List UInt8)))))))) : Nat) : Int))) ∧ (Q (bits_Len64_enc (w64 ((32 : Int) + (((UInt8.toNat (List.getD (Array.toList (ByteArray.data (ByteArray.mk (List.toArray (List.append (List.append ([(0 : UInt8), (1 : UInt8), (2 : UInt8), (2 : UInt8), (3 : UInt8), (3 : UInt8), (3 : UInt8), (3 : UInt8), (4 : UInt8), (4 : UInt8), (4 : UInt8), (4 : UInt8), (4 : UInt8), (4 : UInt8), (4 : UInt8), (4 : UInt8), (5 : UInt8), (5 : UInt8), (5 : UInt8), (5 : UInt8), (5 : UInt8), (5 : UInt8), (5 : UInt8), (5 : UInt8), (5 : UInt8), (5 : UInt8), (5 : UInt8), (5 : UInt8), (5 : UInt8), (5 : UInt8), (5 : UInt8), (5 : UInt8), (6 : UInt8), (6 : UInt8), (6 : UInt8), (6 : UInt8), (6 : UInt8), (6 : UInt8), (6 : UInt8), (6 : UInt8), (6 : UInt8), (6 : UInt8), (6 : UInt8), (6 : UInt8), (6 : UInt8), (6 : UInt8), (6 : UInt8), (6 : UInt8), (6 : UInt8), (6 : UInt8), (6 : UInt8), (6 : UInt8), (6 : UInt8), (6 : UInt8), (6 : UInt8), (6 : UInt8), (6 : UInt8), (6 : UInt8), (6 : UInt8), (6 : UInt8), (6 : UInt8), (6 : UInt8), (6 : UInt8), (6 : UInt8)] : List UInt8) ([(7 : UInt8), (7 : UInt8), (7 : UInt8), (7 : UInt8), (7 : UInt8), (7 : UInt8), (7 : UInt8), (7 : UInt8), (7 : UInt8), (7 : UInt8), (7 : UInt8), (7 : UInt8), (7 : UInt8), (7 : UInt8), (7 : UInt8), (7 : UInt8), (7 : UInt8), (7 : UInt8), (7 : UInt8), (7 : UInt8), (7 : UInt8), (7 : UInt8), (7 : UInt8), (7 : UInt8), (7 : UInt8), (7 : UInt8), (7 : UInt8), (7 : UInt8), (7 : UInt8), (7 : UInt8), (7 : UInt8), (7 : UInt8), (7 : UInt8), (7 : UInt8), (7 : UInt8), (7 : UInt8), (7 : UInt8), (7 : UInt8), (7 : UInt8), (7 : UInt8), (7 : UInt8), (7 : UInt8), (7 : UInt8), (7 : UInt8), (7 : UInt8), (7 : UInt8), (7 : UInt8), (7 : UInt8), (7 : UInt8), (7 : UInt8), (7 : UInt8), (7 : UInt8), (7 : UInt8), (7 : UInt8), (7 : UInt8), (7 : UInt8), (7 : UInt8), (7 : UInt8), (7 : UInt8), (7 : UInt8), (7 : UInt8), (7 : UInt8), (7 : UInt8), (7 : UInt8)] : List UInt8)) (List.append ([(8 : UInt8), (8 : UInt8), (8 : UInt8), (8 : UInt8), (8 : UInt8), (8 : UInt8), (8 : UInt8), (8 : UInt8), (8 : UInt8), (8 : UInt8), (8 : UInt8), (8 : UInt8), (8 : UInt8), (8 : UInt8), (8 : UInt8), (8 : UInt8), (8 : UInt8), (8 : UInt8), (8 : UInt8), (8 : UInt8), (8 : UInt8), (8 : UInt8), (8 : UInt8), (8 : UInt8), (8 : UInt8), (8 : UInt8), (8 : UInt8), (8 : UInt8), (8 : UInt8), (8 : UInt8), (8 : UInt8), (8 : UInt8), (8 : UInt8), (8 : UInt8), (8 : UInt8), (8 : UInt8), (8 : UInt8), (8 : UInt8), (8 : UInt8), (8 : UInt8), (8 : UInt8), (8 : UInt8), (8 : UInt8), (8 : UInt8), (8 : UInt8), (8 : UInt8), (8 : UInt8), (8 : UInt8), (8 : UInt8), (8 : UInt8), (8 : UInt8), (8 : UInt8), (8 : UInt8), (8 : UInt8), (8 : UInt8), (8 : UInt8), (8 : UInt8), (8 : UInt8), (8 : UInt8), (8 : UInt8), (8 : UInt8), (8 : UInt8), (8 : UInt8), (8 : UInt8)] : List UInt8) ([(8 : UInt8), (8 : UInt8), (8 : UInt8), (8 : UInt8), (8 : UInt8), (8 : UInt8), (8 : UInt8), (8 : UInt8), (8 : UInt8), (8 : UInt8), (8 : UInt8), (8 : UInt8), (8 : UInt8), (8 : UInt8), (8 : UInt8), (8 : UInt8), (8 : UInt8), (8 : UInt8), (8 : UInt8), (8 : UInt8), (8 : UInt8), (8 : UInt8), (8 : UInt8), (8 : UInt8), (8 : UInt8), (8 : UInt8), (8 : UInt8), (8 : UInt8), (8 : UInt8), (8 : UInt8), (8 : UInt8), (8 : UInt8), (8 : UInt8), (8 : UInt8), (8 : UInt8), (8 : UInt8), (8 : UInt8), (8 : UInt8), (8 : UInt8), (8 : UInt8), (8 : UInt8), (8 : UInt8), (8 : UInt8), (8 : UInt8), (8 : UInt8), (8 : UInt8), (8 : UInt8), (8 : UInt8), (8 : UInt8), (8 : UInt8), (8 : UInt8), (8 : UInt8), (8 : UInt8), (8 : UInt8), (8 : UInt8), (8 : UInt8), (8 : UInt8), (8 : UInt8), (8 : UInt8), (8 : UInt8), (8 : UInt8), (8 : UInt8), (8 : UInt8), (8 : UInt8)] : List UInt8))))))) (Int.toNat (((UInt8.toNat (UInt64.toUInt8 (shr_u64 x_0 (32 : Nat)))) : Nat) : Int)) (0 : UInt8))) : Nat) : Int)))))))) (condP (decide ((65536 : UInt64) ≤ x_0)) (condP (decide ((256 : UInt64) ≤ (shr_u64 x_0 (16 : Nat)))) ((((0 : Int) ≤ (((UInt8.toNat (UInt64.toUInt8 (shr_u64 (shr_u64 x_0 (16 : Nat)) (8 : Nat)))) : Nat) : Int)) ∧ ((((UInt8.toNat (UInt64.toUInt8 (shr_u64 (shr_u64 x_0 (16 : Nat)) (8 : Nat)))) : Nat) : Int) < (((List.length (Array.toList (ByteArray.data (ByteArray.mk (List.toArray (List.append (List.append ([(0 : UInt8), (1 : UInt8), (2 : UInt8), (2 : UInt8), (3 : UInt8), (3 : UInt8), (3 : UInt8), (3 : UInt8), (4 : UInt8), (4 : UInt8), (4 : UInt8), (4 : UInt8), (4 : UInt8), (4 : UInt8), (4 : UInt8), (4 : UInt8), (5 : UInt8), (5 : UInt8), (5 : UInt8), (5 : UInt8), (5 : UInt8), (5 : UInt8), (5 : UInt8), (5 : UInt8), (5 : UInt8), (5 : UInt8), (5 : UInt8), (5 : UInt8), (5 : UInt8), (5 : UInt8), (5 : UInt8), (5 : UInt8), (6 : UInt8), (6 : UInt8), (6 : UInt8), (6 : UInt8), (6 : UInt8), (6 : UInt8), (6 : UInt8), (6 : UInt8), (6 : UInt8), (6 : UInt8), (6 : UInt8), (6 : UInt8), (6 : UInt8), (6 : UInt8), (6 : UInt8), (6 : UInt8), (6 : UInt8), (6 : UInt8), (6 : UInt8), (6 : UInt8), (6 : UInt8), (6 : UInt8), (6 : UInt8), (6 : UInt8), (6 : UInt8), (6 : UInt8), (6 : UInt8), (6 : UInt8), (6 : UInt8), (6 : UInt8), (6 : UInt8), (6 : UInt8)] : List UInt8) ([(7 : UInt8), (7 : UInt8), (7 : UInt8), (7 : UInt8), (7 : UInt8), (7 : UInt8), (7 : UInt8), (7 : UInt8), (7 : UInt8), (7 : UInt8), (7 : UInt8), (7 : UInt8), (7 : UInt8), (7 : UInt8), (7 : UInt8), (7 : UInt8), (7 : UInt8), (7 : UInt8), (7 : UInt8), (7 : UInt8), (7 : UInt8), (7 : UInt8), (7 : UInt8), (7 : UInt8), (7 : UInt8), (7 : UInt8), (7 : UInt8), (7 : UInt8), (7 : UInt8), (7 : UInt8), (7 : UInt8), (7 : UInt8), (7 : UInt8), (7 : UInt8), (7 : UInt8), (7 : UInt8), (7 : UInt8), (7 : UInt8), (7 : UInt8), (7 : UInt8), (7 : UInt8), (7 : UInt8), (7 : UInt8), (7 : UInt8), (7 : UInt8), (7 : UInt8), (7 : UInt8), (7 : UInt8), (7 : UInt8), (7 : UInt8), (7 : UInt8), (7 : UInt8), (7 : UInt8), (7 : UInt8), (7 : UInt8), (7 : UInt8), (7 : UInt8), (7 : UInt8), (7 : UInt8), (7 : UInt8), (7 : UInt8), (7 : UInt8), (7 : UInt8), (7 : UInt8)] : List UInt8)) (List.append ([(8 : UInt8), (8 : UInt8), (8 : UInt8), (8 : UInt8), (8 : UInt8), (8 : UInt8), (8 : UInt8), (8 : UInt8), (8 : UInt8), (8 : UInt8), (8 : UInt8), (8 : UInt8), (8 : UInt8), (8 : UInt8), (8 : UInt8), (8 : UInt8), (8 : UInt8), (8 : UInt8), (8 : UInt8), (8 : UInt8), (8 : UInt8), (8 : UInt8), (8 : UInt8), (8 : UInt8), (8 : UInt8), (8 : UInt8), (8 : UInt8), (8 : UInt8), (8 : UInt8), (8 : UInt8), (8 : UInt8), (8 : UInt8), (8 : UInt8), (8 : UInt8), (8 : UInt8), (8 : UInt8), (8 : UInt8), (8 : UInt8), (8 : UInt8), (8 : UInt8), (8 : UInt8), (8 : UInt8), (8 : UInt8), (8 : UInt8), (8 : UInt8), (8 : UInt8), (8 : UInt8), (8 : UInt8), (8 : UInt8), (8 : UInt8), (8 : UInt8), (8 : UInt8), (8 : UInt8), (8 : UInt8), (8 : UInt8), (8 : UInt8), (8 : UInt8), (8 : UInt8), (8 : UInt8), (8 : UInt8), (8 : UInt8), (8 : UInt8), (8 : UInt8), (8 : UInt8)] : List UInt8) ([(8 : UInt8), (8 : UInt8), (8 : UInt8), (8 : UInt8), (8 : UInt8), (8 : UInt8), (8 : UInt8), (8 : UInt8), (8 : UInt8), (8 : UInt8), (8 : UInt8), (8 : UInt8), (8 : UInt8), (8 : UInt8), (8 : UInt8), (8 : UInt8), (8 : UInt8), (8 : UInt8), (8 : UInt8), (8 : UInt8), (8 : UInt8), (8 : UInt8), (8 : UInt8), (8 : UInt8), (8 : UInt8), (8 : UInt8), (8 : UInt8), (8 : UInt8), (8 : UInt8), (8 : UInt8), (8 : UInt8), (8 : UInt8), (8 : UInt8), (8 : UInt8), (8 : UInt8), (8 : UInt8), (8 : UInt8), (8 : UInt8), (8 : UInt8), (8 : UInt8), (8 : UInt8), (8 : UInt8), (8 : UInt8), (8 : UInt8), (8 : UInt8), (8 : UInt8), (8 : UInt8), (8 : UInt8), (8 : UInt8), (8 : UInt8), (8 : UInt8), (8 : UInt8), (8 : UInt8), (8 : UInt8), (8 : UInt8), (8 : UInt8), (8 : UInt8), (8 : UInt8), (8 : UInt8), (8 : UInt8), (8 : UInt8), (8 : UInt8), (8 : UInt8), (8 : UInt8)] : List UInt8)))))))) : Nat) : Int))) ∧ (Q (bits_Len64_enc (w64 ((24 : Int) + (((UInt8.toNat (List.getD (Array.toList (ByteArray.data (ByteArray.mk (List.toArray (List.append (List.append ([(0 : UInt8), (1 : UInt8), (2 : UInt8), (2 : UInt8), (3 : UInt8), (3 : UInt8), (3 : UInt8), (3 : UInt8), (4 : UInt8), (4 : UInt8), (4 : UInt8), (4 : UInt8), (4 : UInt8), (4 : UInt8), (4 : UInt8), (4 : UInt8), (5 : UInt8), (5 : UInt8), (5 : UInt8), (5 : UInt8), (5 : UInt8), (5 : UInt8), (5 : UInt8), (5 : UInt8), (5 : UInt8), (5 : UInt8), (5 : UInt8), (5 : UInt8), (5 : UInt8), (5 : UInt8), (5 : UInt8), (5 : UInt8), (6 : UInt8), (6 : UInt8), (6 : UInt8), (6 : UInt8), (6 : UInt8), (6 : UInt8), (6 : UInt8), (6 : UInt8), (6 : UInt8), (6 : UInt8), (6 : UInt8), (6 : UInt8), (6 : UInt8), (6 : UInt8), (6 : UInt8), (6 : UInt8), (6 : UInt8), (6 : UInt8), (6 : UInt8), (6 : UInt8), (6 : UInt8), (6 : UInt8), (6 : UInt8), (6 : UInt8), (6 : UInt8), (6 : UInt8), (6 : UInt8), (6 : UInt8), (6 : UInt8), (6 : UInt8), (6 : UInt8), (6 : UInt8)] : List UInt8) ([(7 : UInt8), (7 : UInt8), (7 : UInt8), (7 : UInt8), (7 : UInt8), (7 : UInt8), (7 : UInt8), (7 : UInt8), (7 : UInt8), (7 : UInt8), (7 : UInt8), (7 : UInt8), (7 : UInt8), (7 : UInt8), (7 : UInt8), (7 : UInt8), (7 : UInt8), (7 : UInt8), (7 : UInt8), (7 : UInt8), (7 : UInt8), (7 : UInt8), (7 : UInt8), (7 : UInt8), (7 : UInt8), (7 : UInt8), (7 : UInt8), (7 : UInt8), (7 : UInt8), (7 : UInt8), (7 : UInt8), (7 : UInt8), (7 : UInt8), (7 : UInt8), (7 : UInt8), (7 : UInt8), (7 : UInt8), (7 : UInt8), (7 : UInt8), (7 : UInt8), (7 : UInt8), (7 : UInt8), (7 : UInt8), (7 : UInt8), (7 : UInt8), (7 : UInt8), (7 : UInt8), (7 : UInt8), (7 : UInt8), (7 : UInt8), (7 : UInt8), (7 : UInt8), (7 : UInt8), (7 : UInt8), (7 : UInt8), (7 : UInt8), (7 : UInt8), (7 : UInt8), (7 : UInt8), (7 : UInt8), (7 : UInt8), (7 : UInt8), (7 : UInt8), (7 : UInt8)] : List UInt8)) (List.append ([(8 : UInt8), (8 : UInt8), (8 : UInt8), (8 : UInt8), (8 : UInt8), (8 : UInt8), (8 : UInt8), (8 : UInt8), (8 : UInt8), (8 : UInt8), (8 : UInt8), (8 : UInt8), (8 : UInt8), (8 : UInt8), (8 : UInt8), (8 : UInt8), (8 : UInt8), (8 : UInt8), (8 : UInt8), (8 : UInt8), (8 : UInt8), (8 : UInt8), (8 : UInt8), (8 : UInt8), (8 : UInt8), (8 : UInt8), (8 : UInt8), (8 : UInt8), (8 : UInt8), (8 : UInt8), (8 : UInt8), (8 : UInt8), (8 : UInt8), (8 : UInt8), (8 : UInt8), (8 : UInt8), (8 : UInt8), (8 : UInt8), (8 : UInt8), (8 : UInt8), (8 : UInt8), (8 : UInt8), (8 : UInt8), (8 : UInt8), (8 : UInt8), (8 : UInt8), (8 : UInt8), (8 : UInt8), (8 : UInt8), (8 : UInt8), (8 : UInt8), (8 : UInt8), (8 : UInt8), (8 : UInt8), (8 : UInt8), (8 : UInt8), (8 : UInt8), (8 : UInt8), (8 : UInt8), (8 : UInt8), (8 : UInt8), (8 : UInt8), (8 : UInt8), (8 : UInt8)] : List UInt8) ([(8 : UInt8), (8 : UInt8), (8 : UInt8), (8 : UInt8), (8 : UInt8), (8 : UInt8), (8 : UInt8), (8 : UInt8), (8 : UInt8), (8 : UInt8), (8 : UInt8), (8 : UInt8), (8 : UInt8), (8 : UInt8), (8 : UInt8), (8 : UInt8), (8 : UInt8), (8 : UInt8), (8 : UInt8), (8 : UInt8), (8 : UInt8), (8 : UInt8), (8 : UInt8), (8 : UInt8), (8 : UInt8), (8 : UInt8), (8 : UInt8), (8 : UInt8), (8 : UInt8), (8 : UInt8), (8 : UInt8), (8 : UInt8), (8 : UInt8), (8 : UInt8), (8 : UInt8), (8 : UInt8), (8 : UInt8), (8 : UInt8), (8 : UInt8), (8 : UInt8), (8 : UInt8), (8 : UInt8), (8 : UInt8), (8 : UInt8), (8 : UInt8), (8 : UInt8), (8 : UInt8), (8 : UInt8), (8 : UInt8), (8 : UInt8), (8 : UInt8), (8 : UInt8), (8 : UInt8), (8 : UInt8), (8 : UInt8), (8 : UInt8), (8 : UInt8), (8 : UInt8), (8 : UInt8), (8 : UInt8), (8 : UInt8), (8 : UInt8), (8 : UInt8), (8 : UInt8)] : List UInt8))))))) (Int.toNat (((UInt8.toNat (UInt64.toUInt8 (shr_u64 (shr_u64 x_0 (16 : Nat)) (8 : Nat)))) : Nat) : Int)) (0 : UInt8))) : Nat) : Int)))))) ((((0 : Int) ≤ (((UInt8.toNat (UInt64.toUInt8 (shr_u64 x_0 (16 : Nat)))) : Nat) : Int)) ∧ ((((UInt8.toNat (UInt64.toUInt8 (shr_u64 x_0 (16 : Nat)))) : Nat) : Int) < (((List.length (Array.toList (ByteArray.data (ByteArray.mk (List.toArray (List.append (List.append ([(0 : UInt8), (1 : UInt8), (2 : UInt8), (2 : UInt8), (3 : UInt8), (3 : UInt8), (3 : UInt8), (3 : UInt8), (4 : UInt8), (4 : UInt8), (4 : UInt8), (4 : UInt8), (4 : UInt8), (4 : UInt8), (4 : UInt8), (4 : UInt8), (5 : UInt8), (5 : UInt8), (5 : UInt8), (5 : UInt8), (5 : UInt8), (5 : UInt8), (5 : UInt8), (5 : UInt8), (5 : UInt8), (5 : UInt8), (5 : UInt8), (5 : UInt8), (5 : UInt8), (5 : UInt8), (5 : UInt8), (5 : UInt8), (6 : UInt8), (6 : UInt8), (6 : UInt8), (6 : UInt8), (6 : UInt8), (6 : UInt8), (6 : UInt8), (6 : UInt8), (6 : UInt8), (6 : UInt8), (6 : UInt8), (6 : UInt8), (6 : UInt8), (6 : UInt8), (6 : UInt8), (6 : UInt8), (6 : UInt8), (6 : UInt8), (6 : UInt8), (6 : UInt8), (6 : UInt8), (6 : UInt8), (6 : UInt8), (6 : UInt8), (6 : UInt8), (6 : UInt8), (6 : UInt8), (6 : UInt8), (6 : UInt8), (6 : UInt8), (6 : UInt8), (6 : UInt8)] : List UInt8) ([(7 : UInt8), (7 : UInt8), (7 : UInt8), (7 : UInt8), (7 : UInt8), (7 : UInt8), (7 : UInt8), (7 : UInt8), (7 : UInt8), (7 : UInt8), (7 : UInt8), (7 : UInt8), (7 : UInt8), (7 : UInt8), (7 : UInt8), (7 : UInt8), (7 : UInt8), (7 : UInt8), (7 : UInt8), (7 : UInt8), (7 : UInt8), (7 : UInt8), (7 : UInt8), (7 : UInt8), (7 : UInt8), (7 : UInt8), (7 : UInt8), (7 : UInt8), (7 : UInt8), (7 : UInt8), (7 : UInt8), (7 : UInt8), (7 : UInt8), (7 : UInt8), (7 : UInt8), (7 : UInt8), (7 : UInt8), (7 : UInt8), (7 : UInt8), (7 : UInt8), (7 : UInt8), (7 : UInt8), (7 : UInt8), (7 : UInt8), (7 : UInt8), (7 : UInt8), (7 : UInt8), (7 : UInt8), (7 : UInt8), (7 : UInt8), (7 : UInt8), (7 : UInt8), (7 : UInt8), (7 : UInt8), (7 : UInt8), (7 : UInt8), (7 : UInt8), (7 : UInt8), (7 : UInt8), (7 : UInt8), (7 : UInt8), (7 : UInt8), (7 : UInt8), (7 : UInt8)] : List UInt8)) (List.append ([(8 : UInt8), (8 : UInt8), (8 : UInt8), (8 : UInt8), (8 : UInt8), (8 : UInt8), (8 : UInt8), (8 : UInt8), (8 : UInt8), (8 : UInt8), (8 : UInt8), (8 : UInt8), (8 : UInt8), (8 : UInt8), (8 : UInt8), (8 : UInt8), (8 : UInt8), (8 : UInt8), (8 : UInt8), (8 : UInt8), (8 : UInt8), (8 : UInt8), (8 : UInt8), (8 : UInt8), (8 : UInt8), (8 : UInt8), (8 : UInt8), (8 : UInt8), (8 : UInt8), (8 : UInt8), (8 : UInt8), (8 : UInt8), (8 : UInt8), (8 : UInt8), (8 : UInt8), (8 : UInt8), (8 : UInt8), (8 : UInt8), (8 : UInt8), (8 : UInt8), (8 : UInt8), (8 : UInt8), (8 : UInt8), (8 : UInt8), (8 : UInt8), (8 : UInt8), (8 : UInt8), (8 : UInt8), (8 : UInt8), (8 : UInt8), (8 : UInt8), (8 : UInt8), (8 : UInt8), (8 : UInt8), (8 : UInt8), (8 : UInt8), (8 : UInt8), (8 : UInt8), (8 : UInt8), (8 : UInt8), (8 : UInt8), (8 : UInt8), (8 : UInt8), (8 : UInt8)] : List UInt8) ([(8 : UInt8), (8 : UInt8), (8 : UInt8), (8 : UInt8), (8 : UInt8), (8 : UInt8), (8 : UInt8), (8 : UInt8), (8 : UInt8), (8 : UInt8), (8 : UInt8), (8 : UInt8), (8 : UInt8), (8 : UInt8), (8 : UInt8), (8 : UInt8), (8 : UInt8), (8 : UInt8), (8 : UInt8), (8 : UInt8), (8 : UInt8), (8 : UInt8), (8 : UInt8), (8 : UInt8), (8 : UInt8), (8 : UInt8), (8 : UInt8), (8 : UInt8), (8 : UInt8), (8 : UInt8), (8 : UInt8), (8 : UInt8), (8 : UInt8), (8 : UInt8), (8 : UInt8), (8 : UInt8), (8 : UInt8), (8 : UInt8), (8 : UInt8), (8 : UInt8), (8 : UInt8), (8 : UInt8), (8 : UInt8), (8 : UInt8), (8 : UInt8), (8 : UInt8), (8 : UInt8), (8 : UInt8), (8 : UInt8), (8 : UInt8), (8 : UInt8), (8 : UInt8), (8 : UInt8), (8 : UInt8), (8 : UInt8), (8 : UInt8), (8 : UInt8), (8 : UInt8), (8 : UInt8), (8 : UInt8), (8 : UInt8), (8 : UInt8), (8 : UInt8), (8 : UInt8)] : List UInt8)))))))) : Nat) : Int))) ∧ (Q (bits_Len64_enc (w64 ((16 : Int) + (((UInt8.toNat (List.getD (Array.toList (ByteArray.data (ByteArray.mk (List.toArray (List.append (List.append ([(0 : UInt8), (1 : UInt8), (2 : UInt8), (2 : UInt8), (3 : UInt8), (3 : UInt8), (3 : UInt8), (3 : UInt8), (4 : UInt8), (4 : UInt8), (4 : UInt8), (4 : UInt8), (4 : UInt8), (4 : UInt8), (4 : UInt8), (4 : UInt8), (5 : UInt8), (5 : UInt8), (5 : UInt8), (5 : UInt8), (5 : UInt8), (5 : UInt8), (5 : UInt8), (5 : UInt8), (5 : UInt8), (5 : UInt8), (5 : UInt8), (5 : UInt8), (5 : UInt8), (5 : UInt8), (5 : UInt8), (5 : UInt8), (6 : UInt8), (6 : UInt8), (6 : UInt8), (6 : UInt8), (6 : UInt8), (6 : UInt8), (6 : UInt8), (6 : UInt8), (6 : UInt8), (6 : UInt8), (6 : UInt8), (6 : UInt8), (6 : UInt8), (6 : UInt8), (6 : UInt8), (6 : UInt8), (6 : UInt8), (6 : UInt8), (6 : UInt8), (6 : UInt8), (6 : UInt8), (6 : UInt8), (6 : UInt8), (6 : UInt8), (6 : UInt8), (6 : UInt8), (6 : UInt8), (6 : UInt8), (6 : UInt8), (6 : UInt8), (6 : UInt8), (6 : UInt8)] : List UInt8) ([(7 : UInt8), (7 : UInt8), (7 : UInt8), (7 : UInt8), (7 : UInt8), (7 : UInt8), (7 : UInt8), (7 : UInt8), (7 : UInt8), (7 : UInt8), (7 : UInt8), (7 : UInt8), (7 : UInt8), (7 : UInt8), (7 : UInt8), (7 : UInt8), (7 : UInt8), (7 : UInt8), (7 : UInt8), (7 : UInt8), (7 : UInt8), (7 : UInt8), (7 : UInt8), (7 : UInt8), (7 : UInt8), (7 : UInt8), (7 : UInt8), (7 : UInt8), (7 : UInt8), (7 : UInt8), (7 : UInt8), (7 : UInt8), (7 : UInt8), (7 : UInt8), (7 : UInt8), (7 : UInt8), (7 : UInt8), (7 : UInt8), (7 : UInt8), (7 : UInt8), (7 : UInt8), (7 : UInt8), (7 : UInt8), (7 : UInt8), (7 : UInt8), (7 : UInt8), (7 : UInt8), (7 : UInt8), (7 : UInt8), (7 : UInt8), (7 : UInt8), (7 : UInt8), (7 : UInt8), (7 : UInt8), (7 : UInt8), (7 : UInt8), (7 : UInt8), (7 : UInt8), (7 : UInt8), (7 : UInt8), (7 : UInt8), (7 : UInt8), (7 : UInt8), (7 : UInt8)] : List UInt8)) (List.append ([(8 : UInt8), (8 : UInt8), (8 : UInt8), (8 : UInt8), (8 : UInt8), (8 : UInt8), (8 : UInt8), (8 : UInt8), (8 : UInt8), (8 : UInt8), (8 : UInt8), (8 : UInt8), (8 : UInt8), (8 : UInt8), (8 : UInt8), (8 : UInt8), (8 : UInt8), (8 : UInt8), (8 : UInt8), (8 : UInt8), (8 : UInt8), (8 : UInt8), (8 : UInt8), (8 : UInt8), (8 : UInt8), (8 : UInt8), (8 : UInt8), (8 : UInt8), (8 : UInt8), (8 : UInt8), (8 : UInt8), (8 : UInt8), (8 : UInt8), (8 : UInt8), (8 : UInt8), (8 : UInt8), (8 : UInt8), (8 : UInt8), (8 : UInt8), (8 : UInt8), (8 : UInt8), (8 : UInt8), (8 : UInt8), (8 : UInt8), (8 : UInt8), (8 : UInt8), (8 : UInt8), (8 : UInt8), (8 : UInt8), (8 : UInt8), (8 : UInt8), (8 : UInt8), (8 : UInt8), (8 : UInt8), (8 : UInt8), (8 : UInt8), (8 : UInt8), (8 : UInt8), (8 : UInt8), (8 : UInt8), (8 : UInt8), (8 : UInt8), (8 : UInt8), (8 : UInt8)] : List UInt8) ([(8 : UInt8), (8 : UInt8), (8 : UInt8), (8 : UInt8), (8 : UInt8), (8 : UInt8), (8 : UInt8), (8 : UInt8), (8 : UInt8), (8 : UInt8), (8 : UInt8), (8 : UInt8), (8 : UInt8), (8 : UInt8), (8 : UInt8), (8 : UInt8), (8 : UInt8), (8 : UInt8), (8 : UInt8), (8 : UInt8), (8 : UInt8), (8 : UInt8), (8 : UInt8), (8 : UInt8), (8 : UInt8), (8 : UInt8), (8 : UInt8), (8 : UInt8), (8 : UInt8), (8 : UInt8), (8 : UInt8), (8 : UInt8), (8 : UInt8), (8 : UInt8), (8 : UInt8), (8 : UInt8), (8 : UInt8), (8 : UInt8), (8 : UInt8), (8 : UInt8), (8 : UInt8), (8 : UInt8), (8 : UInt8), (8 : UInt8), (8 : UInt8), (8 : UInt8), (8 : UInt8), (8 : UInt8), (8 : UInt8), (8 : UInt8), (8 : UInt8), (8 : UInt8), (8 : UInt8), (8 : UInt8), (8 : UInt8), (8 : UInt8), (8 : UInt8), (8 : UInt8), (8 : UInt8), (8 : UInt8), (8 : UInt8), (8 : UInt8), (8 : UInt8), (8 : UInt8)] : List UInt8))))))) (Int.toNat (((UInt8.toNat (UInt64.toUInt8 (shr_u64 x_0 (16 : Nat)))) : Nat) : Int)) (0 : UInt8))) : Nat) : Int))))))) (condP (decide ((256 : UInt64) ≤ x_0)) ((((0 : Int) ≤ (((UInt8.toNat (UInt64.toUInt8 (shr_u64 x_0 (8 : Nat)))) : Nat) : Int)) ∧ ((((UInt8.toNat (UInt64.toUInt8 (shr_u64 x_0 (8 : Nat)))) : Nat) : Int) < (((List.length (Array.toList (ByteArray.data (ByteArray.mk (List.toArray (List.append (List.append ([(0 : UInt8), (1 : UInt8), (2 : UInt8), (2 : UInt8), (3 : UInt8), (3 : UInt8), (3 : UInt8), (3 : UInt8), (4 : UInt8), (4 : UInt8), (4 : UInt8), (4 : UInt8), (4 : UInt8), (4 : UInt8), (4 : UInt8), (4 : UInt8), (5 : UInt8), (5 : UInt8), (5 : UInt8), (5 : UInt8), (5 : UInt8), (5 : UInt8), (5 : UInt8), (5 : UInt8), (5 : UInt8), (5 : UInt8), (5 : UInt8), (5 : UInt8), (5 : UInt8), (5 : UInt8), (5 : UInt8), (5 : UInt8), (6 : UInt8), (6 : UInt8), (6 : UInt8), (6 : UInt8), (6 : UInt8), (6 : UInt8), (6 : UInt8), (6 : UInt8), (6 : UInt8), (6 : UInt8), (6 : UInt8), (6 : UInt8), (6 : UInt8), (6 : UInt8), (6 : UInt8), (6 : UInt8), (6 : UInt8), (6 : UInt8), (6 : UInt8), (6 : UInt8), (6 : UInt8), (6 : UInt8), (6 : UInt8), (6 : UInt8), (6 : UInt8), (6 : UInt8), (6 : UInt8), (6 : UInt8), (6 : UInt8), (6 : UInt8), (6 : UInt8), (6 : UInt8)] : List UInt8) ([(7 : UInt8), (7 : UInt8), (7 : UInt8), (7 : UInt8), (7 : UInt8), (7 : UInt8), (7 : UInt8), (7 : UInt8), (7 : UInt8), (7 : UInt8), (7 : UInt8), (7 : UInt8), (7 : UInt8), (7 : UInt8), (7 : UInt8), (7 : UInt8), (7 : UInt8), (7 : UInt8), (7 : UInt8), (7 : UInt8), (7 : UInt8), (7 : UInt8), (7 : UInt8), (7 : UInt8), (7 : UInt8), (7 : UInt8), (7 : UInt8), (7 : UInt8), (7 : UInt8), (7 : UInt8), (7 : UInt8), (7 : UInt8), (7 : UInt8), (7 : UInt8), (7 : UInt8), (7 : UInt8), (7 : UInt8), (7 : UInt8), (7 : UInt8), (7 : UInt8), (7 : UInt8), (7 : UInt8), (7 : UInt8), (7 : UInt8), (7 : UInt8), (7 : UInt8), (7 : UInt8), (7 : UInt8), (7 : UInt8), (7 : UInt8), (7 : UInt8), (7 : UInt8), (7 : UInt8), (7 : UInt8), (7 : UInt8), (7 : UInt8), (7 : UInt8), (7 : UInt8), (7 : UInt8), (7 : UInt8), (7 : UInt8), (7 : UInt8), (7 : UInt8), (7 : UInt8)] : List UInt8)) (List.append ([(8 : UInt8), (8 : UInt8), (8 : UInt8), (8 : UInt8), (8 : UInt8), (8 : UInt8), (8 : UInt8), (8 : UInt8), (8 : UInt8), (8 : UInt8), (8 : UInt8), (8 : UInt8), (8 : UInt8), (8 : UInt8), (8 : UInt8), (8 : UInt8), (8 : UInt8), (8 : UInt8), (8 : UInt8), (8 : UInt8), (8 : UInt8), (8 : UInt8), (8 : UInt8), (8 : UInt8), (8 : UInt8), (8 : UInt8), (8 : UInt8), (8 : UInt8), (8 : UInt8), (8 : UInt8), (8 : UInt8), (8 : UInt8), (8 : UInt8), (8 : UInt8), (8 : UInt8), (8 : UInt8), (8 : UInt8), (8 : UInt8), (8 : UInt8), (8 : UInt8), (8 : UInt8), (8 : UInt8), (8 : UInt8), (8 : UInt8), (8 : UInt8), (8 : UInt8), (8 : UInt8), (8 : UInt8), (8 : UInt8), (8 : UInt8), (8 : UInt8), (8 : UInt8), (8 : UInt8), (8 : UInt8), (8 : UInt8), (8 : UInt8), (8 : UInt8), (8 : UInt8), (8 : UInt8), (8 : UInt8), (8 : UInt8), (8 : UInt8), (8 : UInt8), (8 : UInt8)] : List UInt8) ([(8 : UInt8), (8 : UInt8), (8 : UInt8), (8 : UInt8), (8 : UInt8), (8 : UInt8), (8 : UInt8), (8 : UInt8), (8 : UInt8), (8 : UInt8), (8 : UInt8), (8 : UInt8), (8 : UInt8), (8 : UInt8), (8 : UInt8), (8 : UInt8), (8 : UInt8), (8 : UInt8), (8 : UInt8), (8 : UInt8), (8 : UInt8), (8 : UInt8), (8 : UInt8), (8 : UInt8), (8 : UInt8), (8 : UInt8), (8 : UInt8), (8 : UInt8), (8 : UInt8), (8 : UInt8), (8 : UInt8), (8 : UInt8), (8 : UInt8), (8 : UInt8), (8 : UInt8), (8 : UInt8), (8 : UInt8), (8 : UInt8), (8 : UInt8), (8 : UInt8), (8 : UInt8), (8 : UInt8), (8 : UInt8), (8 : UInt8), (8 : UInt8), (8 : UInt8), (8 : UInt8), (8 : UInt8), (8 : UInt8), (8 : UInt8), (8 : UInt8), (8 : UInt8), (8 : UInt8), (8 : UInt8), (8 : UInt8), (8 : UInt8), (8 : UInt8), (8 : UInt8), (8 : UInt8), (8 : UInt8), (8 : UInt8), (8 : UInt8), (8 : UInt8), (8 : UInt8)] : List UInt8)))))))) : Nat) : Int))) ∧ (Q (bits_Len64_enc (w64 ((8 : Int) + (((UInt8.toNat (List.getD (Array.toList (ByteArray.data (ByteArray.mk (List.toArray (List.append (List.append ([(0 : UInt8), (1 : UInt8), (2 : UInt8), (2 : UInt8), (3 : UInt8), (3 : UInt8), (3 : UInt8), (3 : UInt8), (4 : UInt8), (4 : UInt8), (4 : UInt8), (4 : UInt8), (4 : UInt8), (4 : UInt8), (4 : UInt8), (4 : UInt8), (5 : UInt8), (5 : UInt8), (5 : UInt8), (5 : UInt8), (5 : UInt8), (5 : UInt8), (5 : UInt8), (5 : UInt8), (5 : UInt8), (5 : UInt8), (5 : UInt8), (5 : UInt8), (5 : UInt8), (5 : UInt8), (5 : UInt8), (5 : UInt8), (6 : UInt8), (6 : UInt8), (6 : UInt8), (6 : UInt8), (6 : UInt8), (6 : UInt8), (6 : UInt8), (6 : UInt8), (6 : UInt8), (6 : UInt8), (6 : UInt8), (6 : UInt8), (6 : UInt8), (6 : UInt8), (6 : UInt8), (6 : UInt8), (6 : UInt8), (6 : UInt8), (6 : UInt8), (6 : UInt8), (6 : UInt8), (6 : UInt8), (6 : UInt8), (6 : UInt8), (6 : UInt8), (6 : UInt8), (6 : UInt8), (6 : UInt8), (6 : UInt8), (6 : UInt8), (6 : UInt8), (6 : UInt8)] : List UInt8) ([(7 : UInt8), (7 : UInt8), (7 : UInt8), (7 : UInt8), (7 : UInt8), (7 : UInt8), (7 : UInt8), (7 : UInt8), (7 : UInt8), (7 : UInt8), (7 : UInt8), (7 : UInt8), (7 : UInt8), (7 : UInt8), (7 : UInt8), (7 : UInt8), (7 : UInt8), (7 : UInt8), (7 : UInt8), (7 : UInt8), (7 : UInt8), (7 : UInt8), (7 : UInt8), (7 : UInt8), (7 : UInt8), (7 : UInt8), (7 : UInt8), (7 : UInt8), (7 : UInt8), (7 : UInt8), (7 : UInt8), (7 : UInt8), (7 : UInt8), (7 : UInt8), (7 : UInt8), (7 : UInt8), (7 : UInt8), (7 : UInt8), (7 : UInt8), (7 : UInt8), (7 : UInt8), (7 : UInt8), (7 : UInt8), (7 : UInt8), (7 : UInt8), (7 : UInt8), (7 : UInt8), (7 : UInt8), (7 : UInt8), (7 : UInt8), (7 : UInt8), (7 : UInt8), (7 : UInt8), (7 : UInt8), (7 : UInt8), (7 : UInt8), (7 : UInt8), (7 : UInt8), (7 : UInt8), (7 : UInt8), (7 : UInt8), (7 : UInt8), (7 : UInt8), (7 : UInt8)] : List UInt8)) (List.append ([(8 : UInt8), (8 : UInt8), (8 : UInt8), (8 : UInt8), (8 : UInt8), (8 : UInt8), (8 : UInt8), (8 : UInt8), (8 : UInt8), (8 : UInt8), (8 : UInt8), (8 : UInt8), (8 : UInt8), (8 : UInt8), (8 : UInt8), (8 : UInt8), (8 : UInt8), (8 : UInt8), (8 : UInt8), (8 : UInt8), (8 : UInt8), (8 : UInt8), (8 : UInt8), (8 : UInt8), (8 : UInt8), (8 : UInt8), (8 : UInt8), (8 : UInt8), (8 : UInt8), (8 : UInt8), (8 : UInt8), (8 : UInt8), (8 : UInt8), (8 : UInt8), (8 : UInt8), (8 : UInt8), (8 : UInt8), (8 : UInt8), (8 : UInt8), (8 : UInt8), (8 : UInt8), (8 : UInt8), (8 : UInt8), (8 : UInt8), (8 : UInt8), (8 : UInt8), (8 : UInt8), (8 : UInt8), (8 : UInt8), (8 : UInt8), (8 : UInt8), (8 : UInt8), (8 : UInt8), (8 : UInt8), (8 : UInt8), (8 : UInt8), (8 : UInt8), (8 : UInt8), (8 : UInt8), (8 : UInt8), (8 : UInt8), (8 : UInt8), (8 : UInt8), (8 : UInt8)] : List UInt8) ([(8 : UInt8), (8 : UInt8), (8 : UInt8), (8 : UInt8), (8 : UInt8), (8 : UInt8), (8 : UInt8), (8 : UInt8), (8 : UInt8), (8 : UInt8), (8 : UInt8), (8 : UInt8), (8 : UInt8), (8 : UInt8), (8 : UInt8), (8 : UInt8), (8 : UInt8), (8 : UInt8), (8 : UInt8), (8 : UInt8), (8 : UInt8), (8 : UInt8), (8 : UInt8), (8 : UInt8), (8 : UInt8), (8 : UInt8), (8 : UInt8), (8 : UInt8), (8 : UInt8), (8 : UInt8), (8 : UInt8), (8 : UInt8), (8 : UInt8), (8 : UInt8), (8 : UInt8), (8 : UInt8), (8 : UInt8), (8 : UInt8), (8 : UInt8), (8 : UInt8), (8 : UInt8), (8 : UInt8), (8 : UInt8), (8 : UInt8), (8 : UInt8), (8 : UInt8), (8 : UInt8), (8 : UInt8), (8 : UInt8), (8 : UInt8), (8 : UInt8), (8 : UInt8), (8 : UInt8), (8 : UInt8), (8 : UInt8), (8 : UInt8), (8 : UInt8), (8 : UInt8), (8 : UInt8), (8 : UInt8), (8 : UInt8), (8 : UInt8), (8 : UInt8), (8 : UInt8)] : List UInt8))))))) (Int.toNat (((UInt8.toNat (UInt64.toUInt8 (shr_u64 x_0 (8 : Nat)))) : Nat) : Int)) (0 : UInt8))) : Nat) : Int)))))) ((((0 : Int) ≤ (((UInt8.toNat (UInt64.toUInt8 x_0)) : Nat) : Int)) ∧ ((((UInt8.toNat (UInt64.toUInt8 x_0)) : Nat) : Int) < (((List.length (Array.toList (ByteArray.data (ByteArray.mk (List.toArray (List.append (List.append ([(0 : UInt8), (1 : UInt8), (2 : UInt8), (2 : UInt8), (3 : UInt8), (3 : UInt8), (3 : UInt8), (3 : UInt8), (4 : UInt8), (4 : UInt8), (4 : UInt8), (4 : UInt8), (4 : UInt8), (4 : UInt8), (4 : UInt8), (4 : UInt8), (5 : UInt8), (5 : UInt8), (5 : UInt8), (5 : UInt8), (5 : UInt8), (5 : UInt8), (5 : UInt8), (5 : UInt8), (5 : UInt8), (5 : UInt8), (5 : UInt8), (5 : UInt8), (5 : UInt8), (5 : UInt8), (5 : UInt8), (5 : UInt8), (6 : UInt8), (6 : UInt8), (6 : UInt8), (6 : UInt8), (6 : UInt8), (6 : UInt8), (6 : UInt8), (6 : UInt8), (6 : UInt8), (6 : UInt8), (6 : UInt8), (6 : UInt8), (6 : UInt8), (6 : UInt8), (6 : UInt8), (6 : UInt8), (6 : UInt8), (6 : UInt8), (6 : UInt8), (6 : UInt8), (6 : UInt8), (6 : UInt8), (6 : UInt8), (6 : UInt8), (6 : UInt8), (6 : UInt8), (6 : UInt8), (6 : UInt8), (6 : UInt8), (6 : UInt8), (6 : UInt8), (6 : UInt8)] : List UInt8) ([(7 : UInt8), (7 : UInt8), (7 : UInt8), (7 : UInt8), (7 : UInt8), (7 : UInt8), (7 : UInt8), (7 : UInt8), (7 : UInt8), (7 : UInt8), (7 : UInt8), (7 : UInt8), (7 : UInt8), (7 : UInt8), (7 : UInt8), (7 : UInt8), (7 : UInt8), (7 : UInt8), (7 : UInt8), (7 : UInt8), (7 : UInt8), (7 : UInt8), (7 : UInt8), (7 : UInt8), (7 : UInt8), (7 : UInt8), (7 : UInt8), (7 : UInt8), (7 : UInt8), (7 : UInt8), (7 : UInt8), (7 : UInt8), (7 : UInt8), (7 : UInt8), (7 : UInt8), (7 : UInt8), (7 : UInt8), (7 : UInt8), (7 : UInt8), (7 : UInt8), (7 : UInt8), (7 : UInt8), (7 : UInt8), (7 : UInt8), (7 : UInt8), (7 : UInt8), (7 : UInt8), (7 : UInt8), (7 : UInt8), (7 : UInt8), (7 : UInt8), (7 : UInt8), (7 : UInt8), (7 : UInt8), (7 : UInt8), (7 : UInt8), (7 : UInt8), (7 : UInt8), (7 : UInt8), (7 : UInt8), (7 : UInt8), (7 : UInt8), (7 : UInt8), (7 : UInt8)] : List UInt8)) (List.append ([(8 : UInt8), (8 : UInt8), (8 : UInt8), (8 : UInt8), (8 : UInt8), (8 : UInt8), (8 : UInt8), (8 : UInt8), (8 : UInt8), (8 : UInt8), (8 : UInt8), (8 : UInt8), (8 : UInt8), (8 : UInt8), (8 : UInt8), (8 : UInt8), (8 : UInt8), (8 : UInt8), (8 : UInt8), (8 : UInt8), (8 : UInt8), (8 : UInt8), (8 : UInt8), (8 : UInt8), (8 : UInt8), (8 : UInt8), (8 : UInt8), (8 : UInt8), (8 : UInt8), (8 : UInt8), (8 : UInt8), (8 : UInt8), (8 : UInt8), (8 : UInt8), (8 : UInt8), (8 : UInt8), (8 : UInt8), (8 : UInt8), (8 : UInt8), (8 : UInt8), (8 : UInt8), (8 : UInt8), (8 : UInt8), (8 : UInt8), (8 : UInt8), (8 : UInt8), (8 : UInt8), (8 : UInt8), (8 : UInt8), (8 : UInt8), (8 : UInt8), (8 : UInt8), (8 : UInt8), (8 : UInt8), (8 : UInt8), (8 : UInt8), (8 : UInt8), (8 : UInt8), (8 : UInt8), (8 : UInt8), (8 : UInt8), (8 : UInt8), (8 : UInt8), (8 : UInt8)] : List UInt8) ([(8 : UInt8), (8 : UInt8), (8 : UInt8), (8 : UInt8), (8 : UInt8), (8 : UInt8), (8 : UInt8), (8 : UInt8), (8 : UInt8), (8 : UInt8), (8 : UInt8), (8 : UInt8), (8 : UInt8), (8 : UInt8), (8 : UInt8), (8 : UInt8), (8 : UInt8), (8 : UInt8), (8 : UInt8), (8 : UInt8), (8 : UInt8), (8 : UInt8), (8 : UInt8), (8 : UInt8), (8 : UInt8), (8 : UInt8), (8 : UInt8), (8 : UInt8), (8 : UInt8), (8 : UInt8), (8 : UInt8), (8 : UInt8), (8 : UInt8), (8 : UInt8), (8 : UInt8), (8 : UInt8), (8 : UInt8), (8 : UInt8), (8 : UInt8), (8 : UInt8), (8 : UInt8), (8 : UInt8), (8 : UInt8), (8 : UInt8), (8 : UInt8), (8 : UInt8), (8 : UInt8), (8 : UInt8), (8 : UInt8), (8 : UInt8), (8 : UInt8), (8 : UInt8), (8 : UInt8), (8 : UInt8), (8 : UInt8), (8 : UInt8), (8 : UInt8), (8 : UInt8), (8 : UInt8), (8 : UInt8), (8 : UInt8), (8 : UInt8), (8 : UInt8), (8 : UInt8)] : List UInt8)))))))) : Nat) : Int))) ∧ (Q (bits_Len64_enc (w64 ((0 : Int) + (((UInt8.toNat (List.getD (Array.toList (ByteArray.data (ByteArray.mk (List.toArray (List.append (List.append ([(0 : UInt8), (1 : UInt8), (2 : UInt8), (2 : UInt8), (3 : UInt8), (3 : UInt8), (3 : UInt8), (3 : UInt8), (4 : UInt8), (4 : UInt8), (4 : UInt8), (4 : UInt8), (4 : UInt8), (4 : UInt8), (4 : UInt8), (4 : UInt8), (5 : UInt8), (5 : UInt8), (5 : UInt8), (5 : UInt8), (5 : UInt8), (5 : UInt8), (5 : UInt8), (5 : UInt8), (5 : UInt8), (5 : UInt8), (5 : UInt8), (5 : UInt8), (5 : UInt8), (5 : UInt8), (5 : UInt8), (5 : UInt8), (6 : UInt8), (6 : UInt8), (6 : UInt8), (6 : UInt8), (6 : UInt8), (6 : UInt8), (6 : UInt8), (6 : UInt8), (6 : UInt8), (6 : UInt8), (6 : UInt8), (6 : UInt8), (6 : UInt8), (6 : UInt8), (6 : UInt8), (6 : UInt8), (6 : UInt8), (6 : UInt8), (6 : UInt8), (6 : UInt8), (6 : UInt8), (6 : UInt8), (6 : UInt8), (6 : UInt8), (6 : UInt8), (6 : UInt8), (6 : UInt8), (6 : UInt8), (6 : UInt8), (6 : UInt8), (6 : UInt8), (6 : UInt8)] : List UInt8) ([(7 : UInt8), (7 : UInt8), (7 : UInt8), (7 : UInt8), (7 : UInt8), (7 : UInt8), (7 : UInt8), (7 : UInt8), (7 : UInt8), (7 : UInt8), (7 : UInt8), (7 : UInt8), (7 : UInt8), (7 : UInt8), (7 : UInt8), (7 : UInt8), (7 : UInt8), (7 : UInt8), (7 : UInt8), (7 : UInt8), (7 : UInt8), (7 : UInt8), (7 : UInt8), (7 : UInt8), (7 : UInt8), (7 : UInt8), (7 : UInt8), (7 : UInt8), (7 : UInt8), (7 : UInt8), (7 : UInt8), (7 : UInt8), (7 : UInt8), (7 : UInt8), (7 : UInt8), (7 : UInt8), (7 : UInt8), (7 : UInt8), (7 : UInt8), (7 : UInt8), (7 : UInt8), (7 : UInt8), (7 : UInt8), (7 : UInt8), (7 : UInt8), (7 : UInt8), (7 : UInt8), (7 : UInt8), (7 : UInt8), (7 : UInt8), (7 : UInt8), (7 : UInt8), (7 : UInt8), (7 : UInt8), (7 : UInt8), (7 : UInt8), (7 : UInt8), (7 : UInt8), (7 : UInt8), (7 : UInt8), (7 : UInt8), (7 : UInt8), (7 : UInt8), (7 : UInt8)] : List UInt8)) (List.append ([(8 : UInt8), (8 : UInt8), (8 : UInt8), (8 : UInt8), (8 : UInt8), (8 : UInt8), (8 : UInt8), (8 : UInt8), (8 : UInt8), (8 : UInt8), (8 : UInt8), (8 : UInt8), (8 : UInt8), (8 : UInt8), (8 : UInt8), (8 : UInt8), (8 : UInt8), (8 : UInt8), (8 : UInt8), (8 : UInt8), (8 : UInt8), (8 : UInt8), (8 : UInt8), (8 : UInt8), (8 : UInt8), (8 : UInt8), (8 : UInt8), (8 : UInt8), (8 : UInt8), (8 : UInt8), (8 : UInt8), (8 : UInt8), (8 : UInt8), (8 : UInt8), (8 : UInt8), (8 : UInt8), (8 : UInt8), (8 : UInt8), (8 : UInt8), (8 : UInt8), (8 : UInt8), (8 : UInt8), (8 : UInt8), (8 : UInt8), (8 : UInt8), (8 : UInt8), (8 : UInt8), (8 : UInt8), (8 : UInt8), (8 : UInt8), (8 : UInt8), (8 : UInt8), (8 : UInt8), (8 : UInt8), (8 : UInt8), (8 : UInt8), (8 : UInt8), (8 : UInt8), (8 : UInt8), (8 : UInt8), (8 : UInt8), (8 : UInt8), (8 : UInt8), (8 : UInt8)] : List UInt8) ([(8 : UInt8), (8 : UInt8), (8 : UInt8), (8 : UInt8), (8 : UInt8), (8 : UInt8), (8 : UInt8), (8 : UInt8), (8 : UInt8), (8 : UInt8), (8 : UInt8), (8 : UInt8), (8 : UInt8), (8 : UInt8), (8 : UInt8), (8 : UInt8), (8 : UInt8), (8 : UInt8), (8 : UInt8), (8 : UInt8), (8 : UInt8), (8 : UInt8), (8 : UInt8), (8 : UInt8), (8 : UInt8), (8 : UInt8), (8 : UInt8), (8 : UInt8), (8 : UInt8), (8 : UInt8), (8 : UInt8), (8 : UInt8), (8 : UInt8), (8 : UInt8), (8 : UInt8), (8 : UInt8), (8 : UInt8), (8 : UInt8), (8 : UInt8), (8 : UInt8), (8 : UInt8), (8 : UInt8), (8 : UInt8), (8 : UInt8), (8 : UInt8), (8 : UInt8), (8 : UInt8), (8 : UInt8), (8 : UInt8), (8 : UInt8), (8 : UInt8), (8 : UInt8), (8 : UInt8), (8 : UInt8), (8 : UInt8), (8 : UInt8), (8 : UInt8), (8 : UInt8), (8 : UInt8), (8 : UInt8), (8 : UInt8), (8 : UInt8), (8 : UInt8), (8 : UInt8)] : List UInt8))))))) (Int.toNat (((UInt8.toNat (UInt64.toUInt8 x_0)) : Nat) : Int)) (0 : UInt8))) : Nat) : Int))))))))) := by kernel_rfl
theorem bits_Len64_w (x_0 : UInt64) {r} {Q : CallOut → Prop} (h : bits_Len64 x_0 = some r) (hQ : Q (bits_Len64_enc r)) : evalFnP bits_Len64_C bits_Len64_lv bits_Len64_r bits_Len64_hs bits_Len64_b [.pv (.sc .u64 x_0)] [] Q :=
  Eq.mpr (bits_Len64_e x_0 Q) (have h := (bits_Len64_q x_0).symm.trans h; cond_ok h (fun h => cond_ok h (fun h => cond_ok h (fun h => ite_ok h fun hc0 h => ret_ok (Q := Q) (e := bits_Len64_enc) h hQ) (fun h => ite_ok h fun hc0 h => ret_ok (Q := Q) (e := bits_Len64_enc) h hQ)) (fun h => cond_ok h (fun h => ite_ok h fun hc0 h => ret_ok (Q := Q) (e := bits_Len64_enc) h hQ) (fun h => ite_ok h fun hc0 h => ret_ok (Q := Q) (e := bits_Len64_enc) h hQ))) (fun h => cond_ok h (fun h => cond_ok h (fun h => ite_ok h fun hc0 h => ret_ok (Q := Q) (e := bits_Len64_enc) h hQ) (fun h => ite_ok h fun hc0 h => ret_ok (Q := Q) (e := bits_Len64_enc) h hQ)) (fun h => cond_ok h (fun h => ite_ok h fun hc0 h => ret_ok (Q := Q) (e := bits_Len64_enc) h hQ) (fun h => ite_ok h fun hc0 h => ret_ok (Q := Q) (e := bits_Len64_enc) h hQ))))
def bits_Len64_c : Ans
  | [.pv (.sc .u64 x_0)], [] => some (none, bits_Len64_enc ((((lenN x_0.toNat) : Nat) : Int)))
  | _, _ => none
theorem bits_Len64_tok : TblOK Try.prog noG bits_Len64_T := .nil
theorem bits_Len64_ok : FnOK Try.prog noG 61 (unW bits_Len64_c) := by
  refine FnOK.ofC (T := bits_Len64_T) (nt := 25) (np := 0) (nf := false) (hs := bits_Len64_hs) (fn := Try.f61) (body := bits_Len64_b) bits_Len64_tok (by kernel_rfl) (by kernel_rfl) (by kernel_rfl) (by kernel_rfl) (c := bits_Len64_c) (lv := bits_Len64_lv) ?_
  intro xs mem p out h hp
  unfold bits_Len64_c at h
  split at h
  · cases h
    exact bits_Len64_w _ (bits_Len64_spec _) rfl
  · cases h
end
end Go.Proofs.Ytepcjobghbanmaa.M

namespace Go.Proofs.Ytepcjobghbanmaa.M
open Go
noncomputable section
set_option maxRecDepth 100000
set_option maxHeartbeats 0
noncomputable def bits_Mul64_T : Tbl := []
noncomputable def bits_Mul64_C : CfgW := mkC Try.prog noG bits_Mul64_T 51 0 false
def bits_Mul64_lv : Nat → List Nat := fun i => []
noncomputable abbrev bits_Mul64_b : Code := Try.f62.body.getD .skip
noncomputable abbrev bits_Mul64_r : List ResultVar := Try.f62.results.toList
def bits_Mul64_hs : List Nat := []

def bits_Mul64_enc (r : UInt64 × UInt64) : CallOut := ⟨.tup [.pv (.sc .u64 r.1), .pv (.sc .u64 r.2)], [], true, []⟩
theorem bits_Mul64_e (x_0 : UInt64) (y : UInt64) (Q : CallOut → Prop) : evalFnP bits_Mul64_C bits_Mul64_lv bits_Mul64_r bits_Mul64_hs bits_Mul64_b [.pv (.sc .u64 x_0), .pv (.sc .u64 y)] [] Q =
    (Q (bits_Mul64_enc (((((shr_u64 x_0 (32 : Nat)) * (shr_u64 y (32 : Nat))) + (shr_u64 (((shr_u64 x_0 (32 : Nat)) * (y &&& (4294967295 : UInt64))) + (shr_u64 ((x_0 &&& (4294967295 : UInt64)) * (y &&& (4294967295 : UInt64))) (32 : Nat))) (32 : Nat))) + (shr_u64 (((((shr_u64 x_0 (32 : Nat)) * (y &&& (4294967295 : UInt64))) + (shr_u64 ((x_0 &&& (4294967295 : UInt64)) * (y &&& (4294967295 : UInt64))) (32 : Nat))) &&& (4294967295 : UInt64)) + ((x_0 &&& (4294967295 : UInt64)) * (shr_u64 y (32 : Nat)))) (32 : Nat))), (x_0 * y)))) := by kernel_rfl
theorem bits_Mul64_w (x_0 : UInt64) (y : UInt64) {Q : CallOut → Prop} (h : Q (bits_Mul64_enc (bits_Mul64 x_0 y))) : evalFnP bits_Mul64_C bits_Mul64_lv bits_Mul64_r bits_Mul64_hs bits_Mul64_b [.pv (.sc .u64 x_0), .pv (.sc .u64 y)] [] Q :=
  Eq.mpr (bits_Mul64_e x_0 y Q) (have h := Eq.mp (congrArg (fun r => Q (bits_Mul64_enc r)) (bits_Mul64_q x_0 y)) h; h)
def bits_Mul64_c : Ans
  | [.pv (.sc .u64 x_0), .pv (.sc .u64 y)], [] => some (none, bits_Mul64_enc ((mulHi x_0 y, mulLo x_0 y)))
  | _, _ => none
theorem bits_Mul64_tok : TblOK Try.prog noG bits_Mul64_T := .nil
theorem bits_Mul64_ok : FnOK Try.prog noG 62 (unW bits_Mul64_c) := by
  refine FnOK.ofC (T := bits_Mul64_T) (nt := 51) (np := 0) (nf := false) (hs := bits_Mul64_hs) (fn := Try.f62) (body := bits_Mul64_b) bits_Mul64_tok (by kernel_rfl) (by kernel_rfl) (by kernel_rfl) (by kernel_rfl) (c := bits_Mul64_c) (lv := bits_Mul64_lv) ?_
  intro xs mem p out h hp
  unfold bits_Mul64_c at h
  split at h
  · cases h
    exact bits_Mul64_w _ _ (congrArg bits_Mul64_enc (bits_Mul64_spec _ _))
  · cases h
end
end Go.Proofs.Ytepcjobghbanmaa.M

namespace Go.Proofs.Ytepcjobghbanmaa.M
open Go
noncomputable section
set_option maxRecDepth 100000
set_option maxHeartbeats 0
noncomputable def bits_LeadingZeros64_T : Tbl := [(61, [], bits_Len64_c)]
noncomputable def bits_LeadingZeros64_C : CfgW := mkC Try.prog noG bits_LeadingZeros64_T 6 0 false
def bits_LeadingZeros64_lv : Nat → List Nat := fun i => []
noncomputable abbrev bits_LeadingZeros64_b : Code := Try.f64.body.getD .skip
noncomputable abbrev bits_LeadingZeros64_r : List ResultVar := Try.f64.results.toList
def bits_LeadingZeros64_hs : List Nat := []

def bits_LeadingZeros64_enc (r : Int) : CallOut := ⟨.pv (.sc .i r), [], true, []⟩
theorem bits_LeadingZeros64_e (x_0 : UInt64) (Q : CallOut → Prop) : evalFnP bits_LeadingZeros64_C bits_LeadingZeros64_lv bits_LeadingZeros64_r bits_LeadingZeros64_hs bits_LeadingZeros64_b [.pv (.sc .u64 x_0)] [] Q =
    (Q (bits_LeadingZeros64_enc (w64 ((64 : Int) - (((lenN (UInt64.toNat x_0)) : Nat) : Int))))) := by kernel_rfl
theorem bits_LeadingZeros64_w (x_0 : UInt64) {Q : CallOut → Prop} (h : Q (bits_LeadingZeros64_enc (bits_LeadingZeros64 x_0))) : evalFnP bits_LeadingZeros64_C bits_LeadingZeros64_lv bits_LeadingZeros64_r bits_LeadingZeros64_hs bits_LeadingZeros64_b [.pv (.sc .u64 x_0)] [] Q :=
  Eq.mpr (bits_LeadingZeros64_e x_0 Q) (have h := Eq.mp (congrArg (fun r => Q (bits_LeadingZeros64_enc r)) (bits_LeadingZeros64_q x_0)) h; h)
def bits_LeadingZeros64_c : Ans
  | [.pv (.sc .u64 x_0)], [] => some (none, bits_LeadingZeros64_enc (((64 - lenN x_0.toNat : Nat) : Int)))
  | _, _ => none
theorem bits_LeadingZeros64_tok : TblOK Try.prog noG bits_LeadingZeros64_T := .cons ⟨by kernel_rfl, bits_Len64_ok⟩ (.nil)
theorem bits_LeadingZeros64_ok : FnOK Try.prog noG 64 (unW bits_LeadingZeros64_c) := by
  refine FnOK.ofC (T := bits_LeadingZeros64_T) (nt := 6) (np := 0) (nf := false) (hs := bits_LeadingZeros64_hs) (fn := Try.f64) (body := bits_LeadingZeros64_b) bits_LeadingZeros64_tok (by kernel_rfl) (by kernel_rfl) (by kernel_rfl) (by kernel_rfl) (c := bits_LeadingZeros64_c) (lv := bits_LeadingZeros64_lv) ?_
  intro xs mem p out h hp
  unfold bits_LeadingZeros64_c at h
  split at h
  · cases h
    exact bits_LeadingZeros64_w _ (congrArg bits_LeadingZeros64_enc (bits_LeadingZeros64_spec _))
  · cases h
end
end Go.Proofs.Ytepcjobghbanmaa.M

namespace Go.Proofs.Ytepcjobghbanmaa.M
open Go
noncomputable section
set_option maxRecDepth 100000
set_option maxHeartbeats 0
noncomputable def bits_Div64_T : Tbl := [(64, [], bits_LeadingZeros64_c)]
noncomputable def bits_Div64_C : CfgW := mkC Try.prog noG bits_Div64_T 135 0 false
def bits_Div64_lv : Nat → List Nat := fun i => bif Nat.beq i 2 then [2, 8, 9, 10, 14, 15, 16, 17, 18] else bif Nat.beq i 0 then [2, 8, 9, 10, 11, 13, 14, 15, 16] else []
noncomputable abbrev bits_Div64_b : Code := Try.f56.body.getD .skip
noncomputable abbrev bits_Div64_r : List ResultVar := Try.f56.results.toList
def bits_Div64_hs : List Nat := []

def bits_Div64_enc (r : UInt64 × UInt64) : CallOut := ⟨.tup [.pv (.sc .u64 r.1), .pv (.sc .u64 r.2)], [], true, []⟩
def bits_Div64_s0 (y : UInt64) (s : UInt64) (yn1 : UInt64) (yn0 : UInt64) (un32 : UInt64) (un1 : UInt64) (un0 : UInt64) (q1 : UInt64) (rhat : UInt64) : St := ⟨[(2, .pv (.sc .u64 y)), (8, .pv (.sc .u64 s)), (9, .pv (.sc .u64 yn1)), (10, .pv (.sc .u64 yn0)), (11, .pv (.sc .u64 un32)), (13, .pv (.sc .u64 un1)), (14, .pv (.sc .u64 un0)), (15, .pv (.sc .u64 q1)), (16, .pv (.sc .u64 rhat))], []⟩
def bits_Div64_s2 (y : UInt64) (s : UInt64) (yn1 : UInt64) (yn0 : UInt64) (un0 : UInt64) (q1 : UInt64) (rhat : UInt64) (un21 : UInt64) (q0 : UInt64) : St := ⟨[(2, .pv (.sc .u64 y)), (8, .pv (.sc .u64 s)), (9, .pv (.sc .u64 yn1)), (10, .pv (.sc .u64 yn0)), (14, .pv (.sc .u64 un0)), (15, .pv (.sc .u64 q1)), (16, .pv (.sc .u64 rhat)), (17, .pv (.sc .u64 un21)), (18, .pv (.sc .u64 q0))], []⟩
theorem bits_Div64_g0 (y : UInt64) (s : UInt64) (yn1 : UInt64) (yn0 : UInt64) (un32 : UInt64) (un1 : UInt64) (un0 : UInt64) (q1 : UInt64) (rhat : UInt64) (Q : CallOut → Prop) : headRound bits_Div64_C bits_Div64_lv [true, true, true, true, true, true, true, true, true, true, true, true, true, true, false, false] bits_Div64_b (bits_Div64_s0 y s yn1 yn0 un32 un1 un0 q1 rhat) (fnK bits_Div64_C bits_Div64_r bits_Div64_hs Q) =
    (condP (eqb (decide ((4294967296 : UInt64) ≤ q1)) false) (condP (bif false then true else (decide ((((4294967296 : UInt64) * rhat) + un1) < (q1 * yn0)))) (condP (decide ((4294967296 : UInt64) ≤ (rhat + yn1))) ((yn1 ≠ (0 : UInt64)) ∧ (headP bits_Div64_C bits_Div64_lv [true, true, true, true, true, true, true, true, true, true, true, true, true, true, true, true, true, true, false, false] bits_Div64_b (bits_Div64_s2 y s yn1 yn0 un0 (q1 - (1 : UInt64)) ((((un32 * (4294967296 : UInt64)) + un1) - ((q1 - (1 : UInt64)) * y)) - (((((un32 * (4294967296 : UInt64)) + un1) - ((q1 - (1 : UInt64)) * y)) / yn1) * yn1)) (((un32 * (4294967296 : UInt64)) + un1) - ((q1 - (1 : UInt64)) * y)) ((((un32 * (4294967296 : UInt64)) + un1) - ((q1 - (1 : UInt64)) * y)) / yn1)) (fnK bits_Div64_C bits_Div64_r bits_Div64_hs Q))) (headP bits_Div64_C bits_Div64_lv [true, true, true, true, true, true, true, true, true, true, true, true, true, true, false, false] bits_Div64_b (bits_Div64_s0 y s yn1 yn0 un32 un1 un0 (q1 - (1 : UInt64)) (rhat + yn1)) (fnK bits_Div64_C bits_Div64_r bits_Div64_hs Q))) ((yn1 ≠ (0 : UInt64)) ∧ (headP bits_Div64_C bits_Div64_lv [true, true, true, true, true, true, true, true, true, true, true, true, true, true, true, true, true, true, false, false] bits_Div64_b (bits_Div64_s2 y s yn1 yn0 un0 q1 ((((un32 * (4294967296 : UInt64)) + un1) - (q1 * y)) - (((((un32 * (4294967296 : UInt64)) + un1) - (q1 * y)) / yn1) * yn1)) (((un32 * (4294967296 : UInt64)) + un1) - (q1 * y)) ((((un32 * (4294967296 : UInt64)) + un1) - (q1 * y)) / yn1)) (fnK bits_Div64_C bits_Div64_r bits_Div64_hs Q)))) (condP (decide ((4294967296 : UInt64) ≤ (rhat + yn1))) ((yn1 ≠ (0 : UInt64)) ∧ (headP bits_Div64_C bits_Div64_lv [true, true, true, true, true, true, true, true, true, true, true, true, true, true, true, true, true, true, false, false] bits_Div64_b (bits_Div64_s2 y s yn1 yn0 un0 (q1 - (1 : UInt64)) ((((un32 * (4294967296 : UInt64)) + un1) - ((q1 - (1 : UInt64)) * y)) - (((((un32 * (4294967296 : UInt64)) + un1) - ((q1 - (1 : UInt64)) * y)) / yn1) * yn1)) (((un32 * (4294967296 : UInt64)) + un1) - ((q1 - (1 : UInt64)) * y)) ((((un32 * (4294967296 : UInt64)) + un1) - ((q1 - (1 : UInt64)) * y)) / yn1)) (fnK bits_Div64_C bits_Div64_r bits_Div64_hs Q))) (headP bits_Div64_C bits_Div64_lv [true, true, true, true, true, true, true, true, true, true, true, true, true, true, false, false] bits_Div64_b (bits_Div64_s0 y s yn1 yn0 un32 un1 un0 (q1 - (1 : UInt64)) (rhat + yn1)) (fnK bits_Div64_C bits_Div64_r bits_Div64_hs Q)))) := by kernel_rfl
theorem bits_Div64_g2 (y : UInt64) (s : UInt64) (yn1 : UInt64) (yn0 : UInt64) (un0 : UInt64) (q1 : UInt64) (rhat : UInt64) (un21 : UInt64) (q0 : UInt64) (Q : CallOut → Prop) : headRound bits_Div64_C bits_Div64_lv [true, true, true, true, true, true, true, true, true, true, true, true, true, true, true, true, true, true, false, false] bits_Div64_b (bits_Div64_s2 y s yn1 yn0 un0 q1 rhat un21 q0) (fnK bits_Div64_C bits_Div64_r bits_Div64_hs Q) =
    (condP (eqb (decide ((4294967296 : UInt64) ≤ q0)) false) (condP (bif false then true else (decide ((((4294967296 : UInt64) * rhat) + un0) < (q0 * yn0)))) (condP (decide ((4294967296 : UInt64) ≤ (rhat + yn1))) (Q (bits_Div64_enc (((q1 * (4294967296 : UInt64)) + (q0 - (1 : UInt64))), (shr_u64 (((un21 * (4294967296 : UInt64)) + un0) - ((q0 - (1 : UInt64)) * y)) (UInt64.toNat s))))) (headP bits_Div64_C bits_Div64_lv [true, true, true, true, true, true, true, true, true, true, true, true, true, true, true, true, true, true, false, false] bits_Div64_b (bits_Div64_s2 y s yn1 yn0 un0 q1 (rhat + yn1) un21 (q0 - (1 : UInt64))) (fnK bits_Div64_C bits_Div64_r bits_Div64_hs Q))) (Q (bits_Div64_enc (((q1 * (4294967296 : UInt64)) + q0), (shr_u64 (((un21 * (4294967296 : UInt64)) + un0) - (q0 * y)) (UInt64.toNat s)))))) (condP (decide ((4294967296 : UInt64) ≤ (rhat + yn1))) (Q (bits_Div64_enc (((q1 * (4294967296 : UInt64)) + (q0 - (1 : UInt64))), (shr_u64 (((un21 * (4294967296 : UInt64)) + un0) - ((q0 - (1 : UInt64)) * y)) (UInt64.toNat s))))) (headP bits_Div64_C bits_Div64_lv [true, true, true, true, true, true, true, true, true, true, true, true, true, true, true, true, true, true, false, false] bits_Div64_b (bits_Div64_s2 y s yn1 yn0 un0 q1 (rhat + yn1) un21 (q0 - (1 : UInt64))) (fnK bits_Div64_C bits_Div64_r bits_Div64_hs Q)))) := by kernel_rfl
theorem bits_Div64_k2 {r : UInt64 × UInt64} {Q : CallOut → Prop} (hQ : Q (bits_Div64_enc r)) : ∀ k : Nat, (∀ (y : UInt64) (s : UInt64) (yn1 : UInt64) (yn0 : UInt64) (un0 : UInt64) (q1 : UInt64) (rhat : UInt64) (un21 : UInt64) (q0 : UInt64), bits_Div64_h2 k y s yn1 yn0 un0 q1 rhat un21 q0 = some r → headP bits_Div64_C bits_Div64_lv [true, true, true, true, true, true, true, true, true, true, true, true, true, true, true, true, true, true, false, false] bits_Div64_b (bits_Div64_s2 y s yn1 yn0 un0 q1 rhat un21 q0) (fnK bits_Div64_C bits_Div64_r bits_Div64_hs Q))
  | 0 => fun _ _ _ _ _ _ _ _ _ h => no_ok h
  | k + 1 => fun y s yn1 yn0 un0 q1 rhat un21 q0 h => headP_step (Eq.mpr (bits_Div64_g2 y s yn1 yn0 un0 q1 rhat un21 q0 Q) (have h := (bits_Div64_h2_q k y s yn1 yn0 un0 q1 rhat un21 q0).symm.trans h; cond_ok h (fun h => cond_ok h (fun h => cond_ok h (fun h => ret_ok (Q := Q) (e := bits_Div64_enc) h hQ) (fun h => (bits_Div64_k2 hQ k) _ _ _ _ _ _ _ _ _ h)) (fun h => ret_ok (Q := Q) (e := bits_Div64_enc) h hQ)) (fun h => cond_ok h (fun h => ret_ok (Q := Q) (e := bits_Div64_enc) h hQ) (fun h => (bits_Div64_k2 hQ k) _ _ _ _ _ _ _ _ _ h))))
theorem bits_Div64_k0 {r : UInt64 × UInt64} {Q : CallOut → Prop} (hQ : Q (bits_Div64_enc r)) : ∀ k : Nat, (∀ (y : UInt64) (s : UInt64) (yn1 : UInt64) (yn0 : UInt64) (un32 : UInt64) (un1 : UInt64) (un0 : UInt64) (q1 : UInt64) (rhat : UInt64), bits_Div64_h0 k y s yn1 yn0 un32 un1 un0 q1 rhat = some r → headP bits_Div64_C bits_Div64_lv [true, true, true, true, true, true, true, true, true, true, true, true, true, true, false, false] bits_Div64_b (bits_Div64_s0 y s yn1 yn0 un32 un1 un0 q1 rhat) (fnK bits_Div64_C bits_Div64_r bits_Div64_hs Q))
  | 0 => fun _ _ _ _ _ _ _ _ _ h => no_ok h
  | k + 1 => fun y s yn1 yn0 un32 un1 un0 q1 rhat h => headP_step (Eq.mpr (bits_Div64_g0 y s yn1 yn0 un32 un1 un0 q1 rhat Q) (have h := (bits_Div64_h0_q k y s yn1 yn0 un32 un1 un0 q1 rhat).symm.trans h; cond_ok h (fun h => cond_ok h (fun h => cond_ok h (fun h => ite_ok h fun hc0 h => (bits_Div64_k2 hQ _) _ _ _ _ _ _ _ _ _ h) (fun h => (bits_Div64_k0 hQ k) _ _ _ _ _ _ _ _ _ h)) (fun h => ite_ok h fun hc0 h => (bits_Div64_k2 hQ _) _ _ _ _ _ _ _ _ _ h)) (fun h => cond_ok h (fun h => ite_ok h fun hc0 h => (bits_Div64_k2 hQ _) _ _ _ _ _ _ _ _ _ h) (fun h => (bits_Div64_k0 hQ k) _ _ _ _ _ _ _ _ _ h))))
theorem bits_Div64_e (hi : UInt64) (lo : UInt64) (y : UInt64) (Q : CallOut → Prop) : evalFnP bits_Div64_C bits_Div64_lv bits_Div64_r bits_Div64_hs bits_Div64_b [.pv (.sc .u64 hi), .pv (.sc .u64 lo), .pv (.sc .u64 y)] [] Q =
    (condP (decide (y = (0 : UInt64))) (False) (condP (decide (y ≤ hi)) (False) (condP (decide (hi = (0 : UInt64))) ((y ≠ (0 : UInt64)) ∧ ((y ≠ (0 : UInt64)) ∧ (Q (bits_Div64_enc ((lo / y), (lo % y)))))) (((shr_u64 (shl_u64 y (UInt64.toNat (UInt64.ofInt ((((64 : Nat) - (lenN (UInt64.toNat y))) : Nat) : Int)))) (32 : Nat)) ≠ (0 : UInt64)) ∧ (headP bits_Div64_C bits_Div64_lv [true, true, true, true, true, true, true, true, true, true, true, true, true, true, false, false] bits_Div64_b (bits_Div64_s0 (shl_u64 y (UInt64.toNat (UInt64.ofInt ((((64 : Nat) - (lenN (UInt64.toNat y))) : Nat) : Int)))) (UInt64.ofInt ((((64 : Nat) - (lenN (UInt64.toNat y))) : Nat) : Int)) (shr_u64 (shl_u64 y (UInt64.toNat (UInt64.ofInt ((((64 : Nat) - (lenN (UInt64.toNat y))) : Nat) : Int)))) (32 : Nat)) ((shl_u64 y (UInt64.toNat (UInt64.ofInt ((((64 : Nat) - (lenN (UInt64.toNat y))) : Nat) : Int)))) &&& (4294967295 : UInt64)) ((shl_u64 hi (UInt64.toNat (UInt64.ofInt ((((64 : Nat) - (lenN (UInt64.toNat y))) : Nat) : Int)))) ||| (shr_u64 lo (UInt64.toNat ((64 : UInt64) - (UInt64.ofInt ((((64 : Nat) - (lenN (UInt64.toNat y))) : Nat) : Int)))))) (shr_u64 (shl_u64 lo (UInt64.toNat (UInt64.ofInt ((((64 : Nat) - (lenN (UInt64.toNat y))) : Nat) : Int)))) (32 : Nat)) ((shl_u64 lo (UInt64.toNat (UInt64.ofInt ((((64 : Nat) - (lenN (UInt64.toNat y))) : Nat) : Int)))) &&& (4294967295 : UInt64)) (((shl_u64 hi (UInt64.toNat (UInt64.ofInt ((((64 : Nat) - (lenN (UInt64.toNat y))) : Nat) : Int)))) ||| (shr_u64 lo (UInt64.toNat ((64 : UInt64) - (UInt64.ofInt ((((64 : Nat) - (lenN (UInt64.toNat y))) : Nat) : Int)))))) / (shr_u64 (shl_u64 y (UInt64.toNat (UInt64.ofInt ((((64 : Nat) - (lenN (UInt64.toNat y))) : Nat) : Int)))) (32 : Nat))) (((shl_u64 hi (UInt64.toNat (UInt64.ofInt ((((64 : Nat) - (lenN (UInt64.toNat y))) : Nat) : Int)))) ||| (shr_u64 lo (UInt64.toNat ((64 : UInt64) - (UInt64.ofInt ((((64 : Nat) - (lenN (UInt64.toNat y))) : Nat) : Int)))))) - ((((shl_u64 hi (UInt64.toNat (UInt64.ofInt ((((64 : Nat) - (lenN (UInt64.toNat y))) : Nat) : Int)))) ||| (shr_u64 lo (UInt64.toNat ((64 : UInt64) - (UInt64.ofInt ((((64 : Nat) - (lenN (UInt64.toNat y))) : Nat) : Int)))))) / (shr_u64 (shl_u64 y (UInt64.toNat (UInt64.ofInt ((((64 : Nat) - (lenN (UInt64.toNat y))) : Nat) : Int)))) (32 : Nat))) * (shr_u64 (shl_u64 y (UInt64.toNat (UInt64.ofInt ((((64 : Nat) - (lenN (UInt64.toNat y))) : Nat) : Int)))) (32 : Nat))))) (fnK bits_Div64_C bits_Div64_r bits_Div64_hs Q)))))) := by kernel_rfl
theorem bits_Div64_w {k : Nat} (hi : UInt64) (lo : UInt64) (y : UInt64) {r} {Q : CallOut → Prop} (h : bits_Div64 k hi lo y = some r) (hQ : Q (bits_Div64_enc r)) : evalFnP bits_Div64_C bits_Div64_lv bits_Div64_r bits_Div64_hs bits_Div64_b [.pv (.sc .u64 hi), .pv (.sc .u64 lo), .pv (.sc .u64 y)] [] Q :=
  Eq.mpr (bits_Div64_e hi lo y Q) (have h := (bits_Div64_q k hi lo y).symm.trans h; cond_ok h (fun h => no_ok h) (fun h => cond_ok h (fun h => no_ok h) (fun h => cond_ok h (fun h => ite_ok h fun hc0 h => ⟨hc0, ret_ok (Q := Q) (e := bits_Div64_enc) h hQ⟩) (fun h => ite_ok h fun hc0 h => (bits_Div64_k0 hQ _) _ _ _ _ _ _ _ _ _ h))))
def bits_Div64_c : Ans
  | [.pv (.sc .u64 hi), .pv (.sc .u64 lo), .pv (.sc .u64 y)], [] => some (some (hi.toNat < y.toNat), bits_Div64_enc ((UInt64.ofNat ((hi.toNat * 18446744073709551616 + lo.toNat) / y.toNat), UInt64.ofNat ((hi.toNat * 18446744073709551616 + lo.toNat) % y.toNat))))
  | _, _ => none
theorem bits_Div64_tok : TblOK Try.prog noG bits_Div64_T := .cons ⟨by kernel_rfl, bits_LeadingZeros64_ok⟩ (.nil)
theorem bits_Div64_ok : FnOK Try.prog noG 56 (unW bits_Div64_c) := by
  refine FnOK.ofC (T := bits_Div64_T) (nt := 135) (np := 0) (nf := false) (hs := bits_Div64_hs) (fn := Try.f56) (body := bits_Div64_b) bits_Div64_tok (by kernel_rfl) (by kernel_rfl) (by kernel_rfl) (by kernel_rfl) (c := bits_Div64_c) (lv := bits_Div64_lv) ?_
  intro xs mem p out h hp
  unfold bits_Div64_c at h
  split at h
  · cases h
    obtain ⟨k, hk⟩ := bits_Div64_spec _ _ _ hp
    exact bits_Div64_w _ _ _ hk rfl
  · cases h
end
end Go.Proofs.Ytepcjobghbanmaa.M
