/- Part of the proofs: what functions of the program do: plain functions, and the walks that show it. No condition. -/
import Derived.KernelRfl
import Derived.Test.YtbdajagcinfeeaaDoorProg
import Derived.Test.YtbdajagcinfeeaaDoorLe
import Derived.Test.YtbdajagcinfeeaaDoorSwords
import Derived.Test.YtbdajagcinfeeaaDoorSbigS
import Derived.Test.YtbdajagcinfeeaaDoorSshaK
set_option linter.unusedVariables false
set_option linter.unusedSimpArgs false
set_option autoImplicit false
namespace Go.Proofs.YtbdajagcinfeeaaDoor.M
open Go
noncomputable section
def bits_Len64_tab0 : List UInt8 := Array.toList (ByteArray.data (ByteArray.mk (List.toArray (List.append (List.append ([(0 : UInt8), (1 : UInt8), (2 : UInt8), (2 : UInt8), (3 : UInt8), (3 : UInt8), (3 : UInt8), (3 : UInt8), (4 : UInt8), (4 : UInt8), (4 : UInt8), (4 : UInt8), (4 : UInt8), (4 : UInt8), (4 : UInt8), (4 : UInt8), (5 : UInt8), (5 : UInt8), (5 : UInt8), (5 : UInt8), (5 : UInt8), (5 : UInt8), (5 : UInt8), (5 : UInt8), (5 : UInt8), (5 : UInt8), (5 : UInt8), (5 : UInt8), (5 : UInt8), (5 : UInt8), (5 : UInt8), (5 : UInt8), (6 : UInt8), (6 : UInt8), (6 : UInt8), (6 : UInt8), (6 : UInt8), (6 : UInt8), (6 : UInt8), (6 : UInt8), (6 : UInt8), (6 : UInt8), (6 : UInt8), (6 : UInt8), (6 : UInt8), (6 : UInt8), (6 : UInt8), (6 : UInt8), (6 : UInt8), (6 : UInt8), (6 : UInt8), (6 : UInt8), (6 : UInt8), (6 : UInt8), (6 : UInt8), (6 : UInt8), (6 : UInt8), (6 : UInt8), (6 : UInt8), (6 : UInt8), (6 : UInt8), (6 : UInt8), (6 : UInt8), (6 : UInt8)] : List UInt8) ([(7 : UInt8), (7 : UInt8), (7 : UInt8), (7 : UInt8), (7 : UInt8), (7 : UInt8), (7 : UInt8), (7 : UInt8), (7 : UInt8), (7 : UInt8), (7 : UInt8), (7 : UInt8), (7 : UInt8), (7 : UInt8), (7 : UInt8), (7 : UInt8), (7 : UInt8), (7 : UInt8), (7 : UInt8), (7 : UInt8), (7 : UInt8), (7 : UInt8), (7 : UInt8), (7 : UInt8), (7 : UInt8), (7 : UInt8), (7 : UInt8), (7 : UInt8), (7 : UInt8), (7 : UInt8), (7 : UInt8), (7 : UInt8), (7 : UInt8), (7 : UInt8), (7 : UInt8), (7 : UInt8), (7 : UInt8), (7 : UInt8), (7 : UInt8), (7 : UInt8), (7 : UInt8), (7 : UInt8), (7 : UInt8), (7 : UInt8), (7 : UInt8), (7 : UInt8), (7 : UInt8), (7 : UInt8), (7 : UInt8), (7 : UInt8), (7 : UInt8), (7 : UInt8), (7 : UInt8), (7 : UInt8), (7 : UInt8), (7 : UInt8), (7 : UInt8), (7 : UInt8), (7 : UInt8), (7 : UInt8), (7 : UInt8), (7 : UInt8), (7 : UInt8), (7 : UInt8)] : List UInt8)) (List.append ([(8 : UInt8), (8 : UInt8), (8 : UInt8), (8 : UInt8), (8 : UInt8), (8 : UInt8), (8 : UInt8), (8 : UInt8), (8 : UInt8), (8 : UInt8), (8 : UInt8), (8 : UInt8), (8 : UInt8), (8 : UInt8), (8 : UInt8), (8 : UInt8), (8 : UInt8), (8 : UInt8), (8 : UInt8), (8 : UInt8), (8 : UInt8), (8 : UInt8), (8 : UInt8), (8 : UInt8), (8 : UInt8), (8 : UInt8), (8 : UInt8), (8 : UInt8), (8 : UInt8), (8 : UInt8), (8 : UInt8), (8 : UInt8), (8 : UInt8), (8 : UInt8), (8 : UInt8), (8 : UInt8), (8 : UInt8), (8 : UInt8), (8 : UInt8), (8 : UInt8), (8 : UInt8), (8 : UInt8), (8 : UInt8), (8 : UInt8), (8 : UInt8), (8 : UInt8), (8 : UInt8), (8 : UInt8), (8 : UInt8), (8 : UInt8), (8 : UInt8), (8 : UInt8), (8 : UInt8), (8 : UInt8), (8 : UInt8), (8 : UInt8), (8 : UInt8), (8 : UInt8), (8 : UInt8), (8 : UInt8), (8 : UInt8), (8 : UInt8), (8 : UInt8), (8 : UInt8)] : List UInt8) ([(8 : UInt8), (8 : UInt8), (8 : UInt8), (8 : UInt8), (8 : UInt8), (8 : UInt8), (8 : UInt8), (8 : UInt8), (8 : UInt8), (8 : UInt8), (8 : UInt8), (8 : UInt8), (8 : UInt8), (8 : UInt8), (8 : UInt8), (8 : UInt8), (8 : UInt8), (8 : UInt8), (8 : UInt8), (8 : UInt8), (8 : UInt8), (8 : UInt8), (8 : UInt8), (8 : UInt8), (8 : UInt8), (8 : UInt8), (8 : UInt8), (8 : UInt8), (8 : UInt8), (8 : UInt8), (8 : UInt8), (8 : UInt8), (8 : UInt8), (8 : UInt8), (8 : UInt8), (8 : UInt8), (8 : UInt8), (8 : UInt8), (8 : UInt8), (8 : UInt8), (8 : UInt8), (8 : UInt8), (8 : UInt8), (8 : UInt8), (8 : UInt8), (8 : UInt8), (8 : UInt8), (8 : UInt8), (8 : UInt8), (8 : UInt8), (8 : UInt8), (8 : UInt8), (8 : UInt8), (8 : UInt8), (8 : UInt8), (8 : UInt8), (8 : UInt8), (8 : UInt8), (8 : UInt8), (8 : UInt8), (8 : UInt8), (8 : UInt8), (8 : UInt8), (8 : UInt8)] : List UInt8))))))
/-- math/bits.Len64 -/
def bits_Len64 (x_0 : UInt64) : Option (Int) :=
  bif decide ((4294967296 : UInt64) ≤ x_0) then (bif decide ((65536 : UInt64) ≤ (shr_u64 x_0 (32 : Nat))) then (bif decide ((256 : UInt64) ≤ (shr_u64 (shr_u64 x_0 (32 : Nat)) (16 : Nat))) then (if ((0 : Int) ≤ (((UInt8.toNat (UInt64.toUInt8 (shr_u64 (shr_u64 (shr_u64 x_0 (32 : Nat)) (16 : Nat)) (8 : Nat)))) : Nat) : Int)) ∧ ((((UInt8.toNat (UInt64.toUInt8 (shr_u64 (shr_u64 (shr_u64 x_0 (32 : Nat)) (16 : Nat)) (8 : Nat)))) : Nat) : Int) < (((List.length (bits_Len64_tab0)) : Nat) : Int)) then
          some (w64 ((56 : Int) + (((UInt8.toNat (List.getD (bits_Len64_tab0) (Int.toNat (((UInt8.toNat (UInt64.toUInt8 (shr_u64 (shr_u64 (shr_u64 x_0 (32 : Nat)) (16 : Nat)) (8 : Nat)))) : Nat) : Int)) (0 : UInt8))) : Nat) : Int)))
        else none)
        else (if ((0 : Int) ≤ (((UInt8.toNat (UInt64.toUInt8 (shr_u64 (shr_u64 x_0 (32 : Nat)) (16 : Nat)))) : Nat) : Int)) ∧ ((((UInt8.toNat (UInt64.toUInt8 (shr_u64 (shr_u64 x_0 (32 : Nat)) (16 : Nat)))) : Nat) : Int) < (((List.length (bits_Len64_tab0)) : Nat) : Int)) then
          some (w64 ((48 : Int) + (((UInt8.toNat (List.getD (bits_Len64_tab0) (Int.toNat (((UInt8.toNat (UInt64.toUInt8 (shr_u64 (shr_u64 x_0 (32 : Nat)) (16 : Nat)))) : Nat) : Int)) (0 : UInt8))) : Nat) : Int)))
        else none))
      else (bif decide ((256 : UInt64) ≤ (shr_u64 x_0 (32 : Nat))) then (if ((0 : Int) ≤ (((UInt8.toNat (UInt64.toUInt8 (shr_u64 (shr_u64 x_0 (32 : Nat)) (8 : Nat)))) : Nat) : Int)) ∧ ((((UInt8.toNat (UInt64.toUInt8 (shr_u64 (shr_u64 x_0 (32 : Nat)) (8 : Nat)))) : Nat) : Int) < (((List.length (bits_Len64_tab0)) : Nat) : Int)) then
          some (w64 ((40 : Int) + (((UInt8.toNat (List.getD (bits_Len64_tab0) (Int.toNat (((UInt8.toNat (UInt64.toUInt8 (shr_u64 (shr_u64 x_0 (32 : Nat)) (8 : Nat)))) : Nat) : Int)) (0 : UInt8))) : Nat) : Int)))
        else none)
        else (if ((0 : Int) ≤ (((UInt8.toNat (UInt64.toUInt8 (shr_u64 x_0 (32 : Nat)))) : Nat) : Int)) ∧ ((((UInt8.toNat (UInt64.toUInt8 (shr_u64 x_0 (32 : Nat)))) : Nat) : Int) < (((List.length (bits_Len64_tab0)) : Nat) : Int)) then
          some (w64 ((32 : Int) + (((UInt8.toNat (List.getD (bits_Len64_tab0) (Int.toNat (((UInt8.toNat (UInt64.toUInt8 (shr_u64 x_0 (32 : Nat)))) : Nat) : Int)) (0 : UInt8))) : Nat) : Int)))
        else none)))
    else (bif decide ((65536 : UInt64) ≤ x_0) then (bif decide ((256 : UInt64) ≤ (shr_u64 x_0 (16 : Nat))) then (if ((0 : Int) ≤ (((UInt8.toNat (UInt64.toUInt8 (shr_u64 (shr_u64 x_0 (16 : Nat)) (8 : Nat)))) : Nat) : Int)) ∧ ((((UInt8.toNat (UInt64.toUInt8 (shr_u64 (shr_u64 x_0 (16 : Nat)) (8 : Nat)))) : Nat) : Int) < (((List.length (bits_Len64_tab0)) : Nat) : Int)) then
          some (w64 ((24 : Int) + (((UInt8.toNat (List.getD (bits_Len64_tab0) (Int.toNat (((UInt8.toNat (UInt64.toUInt8 (shr_u64 (shr_u64 x_0 (16 : Nat)) (8 : Nat)))) : Nat) : Int)) (0 : UInt8))) : Nat) : Int)))
        else none)
        else (if ((0 : Int) ≤ (((UInt8.toNat (UInt64.toUInt8 (shr_u64 x_0 (16 : Nat)))) : Nat) : Int)) ∧ ((((UInt8.toNat (UInt64.toUInt8 (shr_u64 x_0 (16 : Nat)))) : Nat) : Int) < (((List.length (bits_Len64_tab0)) : Nat) : Int)) then
          some (w64 ((16 : Int) + (((UInt8.toNat (List.getD (bits_Len64_tab0) (Int.toNat (((UInt8.toNat (UInt64.toUInt8 (shr_u64 x_0 (16 : Nat)))) : Nat) : Int)) (0 : UInt8))) : Nat) : Int)))
        else none))
      else (bif decide ((256 : UInt64) ≤ x_0) then (if ((0 : Int) ≤ (((UInt8.toNat (UInt64.toUInt8 (shr_u64 x_0 (8 : Nat)))) : Nat) : Int)) ∧ ((((UInt8.toNat (UInt64.toUInt8 (shr_u64 x_0 (8 : Nat)))) : Nat) : Int) < (((List.length (bits_Len64_tab0)) : Nat) : Int)) then
          some (w64 ((8 : Int) + (((UInt8.toNat (List.getD (bits_Len64_tab0) (Int.toNat (((UInt8.toNat (UInt64.toUInt8 (shr_u64 x_0 (8 : Nat)))) : Nat) : Int)) (0 : UInt8))) : Nat) : Int)))
        else none)
        else (if ((0 : Int) ≤ (((UInt8.toNat (UInt64.toUInt8 x_0)) : Nat) : Int)) ∧ ((((UInt8.toNat (UInt64.toUInt8 x_0)) : Nat) : Int) < (((List.length (bits_Len64_tab0)) : Nat) : Int)) then
          some (w64 ((0 : Int) + (((UInt8.toNat (List.getD (bits_Len64_tab0) (Int.toNat (((UInt8.toNat (UInt64.toUInt8 x_0)) : Nat) : Int)) (0 : UInt8))) : Nat) : Int)))
        else none)))
theorem bits_Len64_q (x_0 : UInt64) : bits_Len64 x_0 = (bif decide ((4294967296 : UInt64) ≤ x_0) then (bif decide ((65536 : UInt64) ≤ (shr_u64 x_0 (32 : Nat))) then (bif decide ((256 : UInt64) ≤ (shr_u64 (shr_u64 x_0 (32 : Nat)) (16 : Nat))) then (if ((0 : Int) ≤ (((UInt8.toNat (UInt64.toUInt8 (shr_u64 (shr_u64 (shr_u64 x_0 (32 : Nat)) (16 : Nat)) (8 : Nat)))) : Nat) : Int)) ∧ ((((UInt8.toNat (UInt64.toUInt8 (shr_u64 (shr_u64 (shr_u64 x_0 (32 : Nat)) (16 : Nat)) (8 : Nat)))) : Nat) : Int) < (((List.length (bits_Len64_tab0)) : Nat) : Int)) then
          some (w64 ((56 : Int) + (((UInt8.toNat (List.getD (bits_Len64_tab0) (Int.toNat (((UInt8.toNat (UInt64.toUInt8 (shr_u64 (shr_u64 (shr_u64 x_0 (32 : Nat)) (16 : Nat)) (8 : Nat)))) : Nat) : Int)) (0 : UInt8))) : Nat) : Int)))
        else none)
        else (if ((0 : Int) ≤ (((UInt8.toNat (UInt64.toUInt8 (shr_u64 (shr_u64 x_0 (32 : Nat)) (16 : Nat)))) : Nat) : Int)) ∧ ((((UInt8.toNat (UInt64.toUInt8 (shr_u64 (shr_u64 x_0 (32 : Nat)) (16 : Nat)))) : Nat) : Int) < (((List.length (bits_Len64_tab0)) : Nat) : Int)) then
          some (w64 ((48 : Int) + (((UInt8.toNat (List.getD (bits_Len64_tab0) (Int.toNat (((UInt8.toNat (UInt64.toUInt8 (shr_u64 (shr_u64 x_0 (32 : Nat)) (16 : Nat)))) : Nat) : Int)) (0 : UInt8))) : Nat) : Int)))
        else none))
      else (bif decide ((256 : UInt64) ≤ (shr_u64 x_0 (32 : Nat))) then (if ((0 : Int) ≤ (((UInt8.toNat (UInt64.toUInt8 (shr_u64 (shr_u64 x_0 (32 : Nat)) (8 : Nat)))) : Nat) : Int)) ∧ ((((UInt8.toNat (UInt64.toUInt8 (shr_u64 (shr_u64 x_0 (32 : Nat)) (8 : Nat)))) : Nat) : Int) < (((List.length (bits_Len64_tab0)) : Nat) : Int)) then
          some (w64 ((40 : Int) + (((UInt8.toNat (List.getD (bits_Len64_tab0) (Int.toNat (((UInt8.toNat (UInt64.toUInt8 (shr_u64 (shr_u64 x_0 (32 : Nat)) (8 : Nat)))) : Nat) : Int)) (0 : UInt8))) : Nat) : Int)))
        else none)
        else (if ((0 : Int) ≤ (((UInt8.toNat (UInt64.toUInt8 (shr_u64 x_0 (32 : Nat)))) : Nat) : Int)) ∧ ((((UInt8.toNat (UInt64.toUInt8 (shr_u64 x_0 (32 : Nat)))) : Nat) : Int) < (((List.length (bits_Len64_tab0)) : Nat) : Int)) then
          some (w64 ((32 : Int) + (((UInt8.toNat (List.getD (bits_Len64_tab0) (Int.toNat (((UInt8.toNat (UInt64.toUInt8 (shr_u64 x_0 (32 : Nat)))) : Nat) : Int)) (0 : UInt8))) : Nat) : Int)))
        else none)))
    else (bif decide ((65536 : UInt64) ≤ x_0) then (bif decide ((256 : UInt64) ≤ (shr_u64 x_0 (16 : Nat))) then (if ((0 : Int) ≤ (((UInt8.toNat (UInt64.toUInt8 (shr_u64 (shr_u64 x_0 (16 : Nat)) (8 : Nat)))) : Nat) : Int)) ∧ ((((UInt8.toNat (UInt64.toUInt8 (shr_u64 (shr_u64 x_0 (16 : Nat)) (8 : Nat)))) : Nat) : Int) < (((List.length (bits_Len64_tab0)) : Nat) : Int)) then
          some (w64 ((24 : Int) + (((UInt8.toNat (List.getD (bits_Len64_tab0) (Int.toNat (((UInt8.toNat (UInt64.toUInt8 (shr_u64 (shr_u64 x_0 (16 : Nat)) (8 : Nat)))) : Nat) : Int)) (0 : UInt8))) : Nat) : Int)))
        else none)
        else (if ((0 : Int) ≤ (((UInt8.toNat (UInt64.toUInt8 (shr_u64 x_0 (16 : Nat)))) : Nat) : Int)) ∧ ((((UInt8.toNat (UInt64.toUInt8 (shr_u64 x_0 (16 : Nat)))) : Nat) : Int) < (((List.length (bits_Len64_tab0)) : Nat) : Int)) then
          some (w64 ((16 : Int) + (((UInt8.toNat (List.getD (bits_Len64_tab0) (Int.toNat (((UInt8.toNat (UInt64.toUInt8 (shr_u64 x_0 (16 : Nat)))) : Nat) : Int)) (0 : UInt8))) : Nat) : Int)))
        else none))
      else (bif decide ((256 : UInt64) ≤ x_0) then (if ((0 : Int) ≤ (((UInt8.toNat (UInt64.toUInt8 (shr_u64 x_0 (8 : Nat)))) : Nat) : Int)) ∧ ((((UInt8.toNat (UInt64.toUInt8 (shr_u64 x_0 (8 : Nat)))) : Nat) : Int) < (((List.length (bits_Len64_tab0)) : Nat) : Int)) then
          some (w64 ((8 : Int) + (((UInt8.toNat (List.getD (bits_Len64_tab0) (Int.toNat (((UInt8.toNat (UInt64.toUInt8 (shr_u64 x_0 (8 : Nat)))) : Nat) : Int)) (0 : UInt8))) : Nat) : Int)))
        else none)
        else (if ((0 : Int) ≤ (((UInt8.toNat (UInt64.toUInt8 x_0)) : Nat) : Int)) ∧ ((((UInt8.toNat (UInt64.toUInt8 x_0)) : Nat) : Int) < (((List.length (bits_Len64_tab0)) : Nat) : Int)) then
          some (w64 ((0 : Int) + (((UInt8.toNat (List.getD (bits_Len64_tab0) (Int.toNat (((UInt8.toNat (UInt64.toUInt8 x_0)) : Nat) : Int)) (0 : UInt8))) : Nat) : Int)))
        else none)))) := by kernel_rfl
theorem bits_Len64_tabL : bits_Len64_tab0.length = 256 := by decide +kernel
theorem bits_Len64_tabG0 : ∀ b : Fin 256, ((List.getD bits_Len64_tab0 b.val 0).toNat) = (if b.val = 0 then 0 else Nat.log2 b.val + 1) := by decide +kernel
theorem bits_Len64_tabG (b : Fin 256) : ((List.getD bits_Len64_tab0 b.val 0).toNat) = lenN b.val := by rw [lenN_eq]; exact bits_Len64_tabG0 b
theorem bits_Len64_leaf (y : UInt64) (n : Nat) (x c : Nat) (hy : y.toNat = x / 2 ^ c) (hx : x / 2 ^ c < 256) (hn : x / 2 ^ c ≠ 0 ∨ c = 0) (hc : c ≤ 56) :
    (if ((0 : Int) ≤ (((UInt8.toNat (UInt64.toUInt8 y)) : Nat) : Int)) ∧ ((((UInt8.toNat (UInt64.toUInt8 y)) : Nat) : Int) < (((List.length (bits_Len64_tab0)) : Nat) : Int)) then
      some (w64 (((c : Nat) : Int) + (((UInt8.toNat (List.getD (bits_Len64_tab0) (Int.toNat (((UInt8.toNat (UInt64.toUInt8 y)) : Nat) : Int)) (0 : UInt8))) : Nat) : Int))) else none) = some (((lenN x : Nat) : Int)) := by
  have e : (UInt64.toUInt8 y).toNat = x / 2 ^ c := by
    rw [UInt64.toNat_toUInt8, hy]; omega
  rw [e, bits_Len64_tabL, if_pos (by omega), Int.toNat_natCast, bits_Len64_tabG ⟨x / 2 ^ c, hx⟩]
  show some (w64 (((c : Nat) : Int) + ((lenN (x / 2 ^ c) : Nat) : Int))) = _
  have hl : lenN (x / 2 ^ c) ≤ 8 := lenN_le.2 hx
  have e2 : lenN x = lenN (x / 2 ^ c) + c := by
    by_cases h0 : c = 0
    · subst h0; rw [Nat.pow_zero, Nat.div_one]; rfl
    · exact lenN_shift c (by rcases hn with h | h; exact h; exact absurd h h0)
  rw [w64_id (by omega) (by omega), e2]
  refine congrArg some ?_
  omega
theorem bits_Len64_spec (x : UInt64) : bits_Len64 x = some (((lenN x.toNat : Nat) : Int)) := by
  have hx := x.toNat_lt
  have s32 : (shr_u64 x 32).toNat = x.toNat / 2 ^ 32 := shr_val _ _ (by omega)
  have s16 : (shr_u64 x 16).toNat = x.toNat / 2 ^ 16 := shr_val _ _ (by omega)
  have s8 : (shr_u64 x 8).toNat = x.toNat / 2 ^ 8 := shr_val _ _ (by omega)
  have s48 : (shr_u64 (shr_u64 x 32) 16).toNat = x.toNat / 2 ^ 48 := by rw [shr_val _ _ (by omega), s32, Nat.div_div_eq_div_mul]
  have s40 : (shr_u64 (shr_u64 x 32) 8).toNat = x.toNat / 2 ^ 40 := by rw [shr_val _ _ (by omega), s32, Nat.div_div_eq_div_mul]
  have s24 : (shr_u64 (shr_u64 x 16) 8).toNat = x.toNat / 2 ^ 24 := by rw [shr_val _ _ (by omega), s16, Nat.div_div_eq_div_mul]
  have s56 : (shr_u64 (shr_u64 (shr_u64 x 32) 16) 8).toNat = x.toNat / 2 ^ 56 := by rw [shr_val _ _ (by omega), s48, Nat.div_div_eq_div_mul]
  have le : ∀ (y : UInt64) (n : Nat) (h : n < 18446744073709551616), (UInt64.ofNat n ≤ y) ↔ n ≤ y.toNat := by
    intro y n h
    rw [UInt64.le_iff_toNat_le, UInt64.toNat_ofNat', Nat.mod_eq_of_lt h]
  have l32 : ∀ y : UInt64, ((4294967296 : UInt64) ≤ y) ↔ 4294967296 ≤ y.toNat := fun y => le y 4294967296 (by omega)
  have l16 : ∀ y : UInt64, ((65536 : UInt64) ≤ y) ↔ 65536 ≤ y.toNat := fun y => le y 65536 (by omega)
  have l8 : ∀ y : UInt64, ((256 : UInt64) ≤ y) ↔ 256 ≤ y.toNat := fun y => le y 256 (by omega)
  rw [bits_Len64_q]
  by_cases c1 : (4294967296 : UInt64) ≤ x
  · rw [bif_pos c1]
    rw [l32] at c1
    by_cases c2 : (65536 : UInt64) ≤ shr_u64 x 32
    · rw [bif_pos c2]
      rw [l16, s32] at c2
      by_cases c3 : (256 : UInt64) ≤ shr_u64 (shr_u64 x 32) 16
      · rw [bif_pos c3]
        rw [l8, s48] at c3
        exact bits_Len64_leaf _ 0 _ 56 s56 (by omega) (by omega) (by omega)
      · rw [bif_neg c3]
        rw [l8, s48] at c3
        exact bits_Len64_leaf _ 0 _ 48 s48 (by omega) (by omega) (by omega)
    · rw [bif_neg c2]
      rw [l16, s32] at c2
      by_cases c3 : (256 : UInt64) ≤ shr_u64 x 32
      · rw [bif_pos c3]
        rw [l8, s32] at c3
        exact bits_Len64_leaf _ 0 _ 40 s40 (by omega) (by omega) (by omega)
      · rw [bif_neg c3]
        rw [l8, s32] at c3
        exact bits_Len64_leaf _ 0 _ 32 s32 (by omega) (by omega) (by omega)
  · rw [bif_neg c1]
    rw [l32] at c1
    by_cases c2 : (65536 : UInt64) ≤ x
    · rw [bif_pos c2]
      rw [l16] at c2
      by_cases c3 : (256 : UInt64) ≤ shr_u64 x 16
      · rw [bif_pos c3]
        rw [l8, s16] at c3
        exact bits_Len64_leaf _ 0 _ 24 s24 (by omega) (by omega) (by omega)
      · rw [bif_neg c3]
        rw [l8, s16] at c3
        exact bits_Len64_leaf _ 0 _ 16 s16 (by omega) (by omega) (by omega)
    · rw [bif_neg c2]
      rw [l16] at c2
      by_cases c3 : (256 : UInt64) ≤ x
      · rw [bif_pos c3]
        rw [l8] at c3
        exact bits_Len64_leaf _ 0 _ 8 s8 (by omega) (by omega) (by omega)
      · rw [bif_neg c3]
        rw [l8] at c3
        exact bits_Len64_leaf x 0 x.toNat 0 (by rw [Nat.pow_zero, Nat.div_one]) (by omega) (by omega) (by omega)

end
end Go.Proofs.YtbdajagcinfeeaaDoor.M

namespace Go.Proofs.YtbdajagcinfeeaaDoor.M
open Go
noncomputable section
/-- math/bits.RotateLeft32 -/
def bits_RotateLeft32 (x_0 : UInt32) (k_1 : Int) : UInt32 :=
  ((shl_u32 x_0 (UInt64.toNat ((UInt64.ofInt k_1) &&& (31 : UInt64)))) ||| (shr_u32 x_0 (UInt64.toNat ((32 : UInt64) - ((UInt64.ofInt k_1) &&& (31 : UInt64))))))
theorem bits_RotateLeft32_q (x_0 : UInt32) (k_1 : Int) : bits_RotateLeft32 x_0 k_1 = (((shl_u32 x_0 (UInt64.toNat ((UInt64.ofInt k_1) &&& (31 : UInt64)))) ||| (shr_u32 x_0 (UInt64.toNat ((32 : UInt64) - ((UInt64.ofInt k_1) &&& (31 : UInt64))))))) := by kernel_rfl

end
end Go.Proofs.YtbdajagcinfeeaaDoor.M

namespace Go.Proofs.YtbdajagcinfeeaaDoor.M
open Go
noncomputable section
set_option maxRecDepth 100000
set_option maxHeartbeats 0
noncomputable def bits_Len64_T : Tbl := []
noncomputable def bits_Len64_C : CfgW := mkC Tryd.prog theG bits_Len64_T 25 0 false
def bits_Len64_lv : Nat → List Nat := fun i => []
noncomputable abbrev bits_Len64_b : Code := Tryd.f86.body.getD .skip
noncomputable abbrev bits_Len64_r : List ResultVar := Tryd.f86.results.toList
def bits_Len64_hs : List Nat := []

def bits_Len64_enc (r : Int) : CallOut := ⟨.pv (.sc .i r), [], true, []⟩
theorem bits_Len64_e (x_0 : UInt64) (Q : CallOut → Prop) : evalFnP bits_Len64_C bits_Len64_lv bits_Len64_r bits_Len64_hs bits_Len64_b [.pv (.sc .u64 x_0)] [] Q =
    (condP (decide ((4294967296 : UInt64) ≤ x_0)) (condP (decide ((65536 : UInt64) ≤ (shr_u64 x_0 (32 : Nat)))) (condP (decide ((256 : UInt64) ≤ (shr_u64 (shr_u64 x_0 (32 : Nat)) (16 : Nat)))) ((((0 : Int) ≤ (((UInt8.toNat (UInt64.toUInt8 (shr_u64 (shr_u64 (shr_u64 x_0 (32 : Nat)) (16 : Nat)) (8 : Nat)))) : Nat) : Int)) ∧ ((((UInt8.toNat (UInt64.toUInt8 (shr_u64 (shr_u64 (shr_u64 x_0 (32 : Nat)) (16 : Nat)) (8 : Nat)))) : Nat) : Int) < (((List.length (bits_Len64_tab0)) : Nat) : Int))) ∧ (Q (bits_Len64_enc (w64 ((56 : Int) + (((UInt8.toNat (List.getD (bits_Len64_tab0) (Int.toNat (((UInt8.toNat (UInt64.toUInt8 (shr_u64 (shr_u64 (shr_u64 x_0 (32 : Nat)) (16 : Nat)) (8 : Nat)))) : Nat) : Int)) (0 : UInt8))) : Nat) : Int)))))) ((((0 : Int) ≤ (((UInt8.toNat (UInt64.toUInt8 (shr_u64 (shr_u64 x_0 (32 : Nat)) (16 : Nat)))) : Nat) : Int)) ∧ ((((UInt8.toNat (UInt64.toUInt8 (shr_u64 (shr_u64 x_0 (32 : Nat)) (16 : Nat)))) : Nat) : Int) < (((List.length (bits_Len64_tab0)) : Nat) : Int))) ∧ (Q (bits_Len64_enc (w64 ((48 : Int) + (((UInt8.toNat (List.getD (bits_Len64_tab0) (Int.toNat (((UInt8.toNat (UInt64.toUInt8 (shr_u64 (shr_u64 x_0 (32 : Nat)) (16 : Nat)))) : Nat) : Int)) (0 : UInt8))) : Nat) : Int))))))) (condP (decide ((256 : UInt64) ≤ (shr_u64 x_0 (32 : Nat)))) ((((0 : Int) ≤ (((UInt8.toNat (UInt64.toUInt8 (shr_u64 (shr_u64 x_0 (32 : Nat)) (8 : Nat)))) : Nat) : Int)) ∧ ((((UInt8.toNat (UInt64.toUInt8 (shr_u64 (shr_u64 x_0 (32 : Nat)) (8 : Nat)))) : Nat) : Int) < (((List.length (bits_Len64_tab0)) : Nat) : Int))) ∧ (Q (bits_Len64_enc (w64 ((40 : Int) + (((UInt8.toNat (List.getD (bits_Len64_tab0) (Int.toNat (((UInt8.toNat (UInt64.toUInt8 (shr_u64 (shr_u64 x_0 (32 : Nat)) (8 : Nat)))) : Nat) : Int)) (0 : UInt8))) : Nat) : Int)))))) ((((0 : Int) ≤ (((UInt8.toNat (UInt64.toUInt8 (shr_u64 x_0 (32 : Nat)))) : Nat) : Int)) ∧ ((((UInt8.toNat (UInt64.toUInt8 (shr_u64 x_0 (32 : Nat)))) : Nat) : Int) < (((List.length (bits_Len64_tab0)) : Nat) : Int))) ∧ (Q (bits_Len64_enc (w64 ((32 : Int) + (((UInt8.toNat (List.getD (bits_Len64_tab0) (Int.toNat (((UInt8.toNat (UInt64.toUInt8 (shr_u64 x_0 (32 : Nat)))) : Nat) : Int)) (0 : UInt8))) : Nat) : Int)))))))) (condP (decide ((65536 : UInt64) ≤ x_0)) (condP (decide ((256 : UInt64) ≤ (shr_u64 x_0 (16 : Nat)))) ((((0 : Int) ≤ (((UInt8.toNat (UInt64.toUInt8 (shr_u64 (shr_u64 x_0 (16 : Nat)) (8 : Nat)))) : Nat) : Int)) ∧ ((((UInt8.toNat (UInt64.toUInt8 (shr_u64 (shr_u64 x_0 (16 : Nat)) (8 : Nat)))) : Nat) : Int) < (((List.length (bits_Len64_tab0)) : Nat) : Int))) ∧ (Q (bits_Len64_enc (w64 ((24 : Int) + (((UInt8.toNat (List.getD (bits_Len64_tab0) (Int.toNat (((UInt8.toNat (UInt64.toUInt8 (shr_u64 (shr_u64 x_0 (16 : Nat)) (8 : Nat)))) : Nat) : Int)) (0 : UInt8))) : Nat) : Int)))))) ((((0 : Int) ≤ (((UInt8.toNat (UInt64.toUInt8 (shr_u64 x_0 (16 : Nat)))) : Nat) : Int)) ∧ ((((UInt8.toNat (UInt64.toUInt8 (shr_u64 x_0 (16 : Nat)))) : Nat) : Int) < (((List.length (bits_Len64_tab0)) : Nat) : Int))) ∧ (Q (bits_Len64_enc (w64 ((16 : Int) + (((UInt8.toNat (List.getD (bits_Len64_tab0) (Int.toNat (((UInt8.toNat (UInt64.toUInt8 (shr_u64 x_0 (16 : Nat)))) : Nat) : Int)) (0 : UInt8))) : Nat) : Int))))))) (condP (decide ((256 : UInt64) ≤ x_0)) ((((0 : Int) ≤ (((UInt8.toNat (UInt64.toUInt8 (shr_u64 x_0 (8 : Nat)))) : Nat) : Int)) ∧ ((((UInt8.toNat (UInt64.toUInt8 (shr_u64 x_0 (8 : Nat)))) : Nat) : Int) < (((List.length (bits_Len64_tab0)) : Nat) : Int))) ∧ (Q (bits_Len64_enc (w64 ((8 : Int) + (((UInt8.toNat (List.getD (bits_Len64_tab0) (Int.toNat (((UInt8.toNat (UInt64.toUInt8 (shr_u64 x_0 (8 : Nat)))) : Nat) : Int)) (0 : UInt8))) : Nat) : Int)))))) ((((0 : Int) ≤ (((UInt8.toNat (UInt64.toUInt8 x_0)) : Nat) : Int)) ∧ ((((UInt8.toNat (UInt64.toUInt8 x_0)) : Nat) : Int) < (((List.length (bits_Len64_tab0)) : Nat) : Int))) ∧ (Q (bits_Len64_enc (w64 ((0 : Int) + (((UInt8.toNat (List.getD (bits_Len64_tab0) (Int.toNat (((UInt8.toNat (UInt64.toUInt8 x_0)) : Nat) : Int)) (0 : UInt8))) : Nat) : Int))))))))) := by kernel_rfl
theorem bits_Len64_w (x_0 : UInt64) {r} {Q : CallOut → Prop} (h : bits_Len64 x_0 = some r) (hQ : Q (bits_Len64_enc r)) : evalFnP bits_Len64_C bits_Len64_lv bits_Len64_r bits_Len64_hs bits_Len64_b [.pv (.sc .u64 x_0)] [] Q :=
  Eq.mpr (bits_Len64_e x_0 Q) (have h := (bits_Len64_q x_0).symm.trans h; cond_ok h (fun h => cond_ok h (fun h => cond_ok h (fun h => ite_ok h fun hc0 h => ret_ok (Q := Q) (e := bits_Len64_enc) h hQ) (fun h => ite_ok h fun hc0 h => ret_ok (Q := Q) (e := bits_Len64_enc) h hQ)) (fun h => cond_ok h (fun h => ite_ok h fun hc0 h => ret_ok (Q := Q) (e := bits_Len64_enc) h hQ) (fun h => ite_ok h fun hc0 h => ret_ok (Q := Q) (e := bits_Len64_enc) h hQ))) (fun h => cond_ok h (fun h => cond_ok h (fun h => ite_ok h fun hc0 h => ret_ok (Q := Q) (e := bits_Len64_enc) h hQ) (fun h => ite_ok h fun hc0 h => ret_ok (Q := Q) (e := bits_Len64_enc) h hQ)) (fun h => cond_ok h (fun h => ite_ok h fun hc0 h => ret_ok (Q := Q) (e := bits_Len64_enc) h hQ) (fun h => ite_ok h fun hc0 h => ret_ok (Q := Q) (e := bits_Len64_enc) h hQ))))
def bits_Len64_c : Ans
  | [.pv (.sc .u64 x_0)], [] => some (none, bits_Len64_enc ((((lenN x_0.toNat) : Nat) : Int)))
  | _, _ => none
theorem bits_Len64_tok : TblOK Tryd.prog theG bits_Len64_T := .nil
theorem bits_Len64_ok : FnOK Tryd.prog theG 86 (unW bits_Len64_c) := by
  refine FnOK.ofC (T := bits_Len64_T) (nt := 25) (np := 0) (mv := []) (nf := false) (hs := bits_Len64_hs) (fn := Tryd.f86) (body := bits_Len64_b) bits_Len64_tok (by kernel_rfl) (by kernel_rfl) (by kernel_rfl) (by kernel_rfl) (c := bits_Len64_c) (lv := bits_Len64_lv) ?_
  intro xs mem p out h hp
  unfold bits_Len64_c at h
  split at h
  · cases h
    exact bits_Len64_w _ (bits_Len64_spec _) rfl
  · cases h
end
end Go.Proofs.YtbdajagcinfeeaaDoor.M

namespace Go.Proofs.YtbdajagcinfeeaaDoor.M
open Go
noncomputable section
set_option maxRecDepth 100000
set_option maxHeartbeats 0
noncomputable def bits_RotateLeft32_T : Tbl := []
noncomputable def bits_RotateLeft32_C : CfgW := mkC Tryd.prog theG bits_RotateLeft32_T 17 0 false
def bits_RotateLeft32_lv : Nat → List Nat := fun i => []
noncomputable abbrev bits_RotateLeft32_b : Code := Tryd.f91.body.getD .skip
noncomputable abbrev bits_RotateLeft32_r : List ResultVar := Tryd.f91.results.toList
def bits_RotateLeft32_hs : List Nat := []

def bits_RotateLeft32_enc (r : UInt32) : CallOut := ⟨.pv (.sc .u32 r), [], true, []⟩
theorem bits_RotateLeft32_e (x_0 : UInt32) (k_1 : Int) (Q : CallOut → Prop) : evalFnP bits_RotateLeft32_C bits_RotateLeft32_lv bits_RotateLeft32_r bits_RotateLeft32_hs bits_RotateLeft32_b [.pv (.sc .u32 x_0), .pv (.sc .i k_1)] [] Q =
    (Q (bits_RotateLeft32_enc ((shl_u32 x_0 (UInt64.toNat ((UInt64.ofInt k_1) &&& (31 : UInt64)))) ||| (shr_u32 x_0 (UInt64.toNat ((32 : UInt64) - ((UInt64.ofInt k_1) &&& (31 : UInt64)))))))) := by kernel_rfl
theorem bits_RotateLeft32_w (x_0 : UInt32) (k_1 : Int) {Q : CallOut → Prop} (h : Q (bits_RotateLeft32_enc (bits_RotateLeft32 x_0 k_1))) : evalFnP bits_RotateLeft32_C bits_RotateLeft32_lv bits_RotateLeft32_r bits_RotateLeft32_hs bits_RotateLeft32_b [.pv (.sc .u32 x_0), .pv (.sc .i k_1)] [] Q :=
  Eq.mpr (bits_RotateLeft32_e x_0 k_1 Q) (have h := Eq.mp (congrArg (fun r => Q (bits_RotateLeft32_enc r)) (bits_RotateLeft32_q x_0 k_1)) h; h)
def bits_RotateLeft32_c : Ans
  | [.pv (.sc .u32 x_0), .pv (.sc .i k_1)], [] => some (none, bits_RotateLeft32_enc (bits_RotateLeft32 x_0 k_1))
  | _, _ => none
theorem bits_RotateLeft32_tok : TblOK Tryd.prog theG bits_RotateLeft32_T := .nil
theorem bits_RotateLeft32_ok : FnOK Tryd.prog theG 91 (unW bits_RotateLeft32_c) := by
  refine FnOK.ofC (T := bits_RotateLeft32_T) (nt := 17) (np := 0) (mv := []) (nf := false) (hs := bits_RotateLeft32_hs) (fn := Tryd.f91) (body := bits_RotateLeft32_b) bits_RotateLeft32_tok (by kernel_rfl) (by kernel_rfl) (by kernel_rfl) (by kernel_rfl) (c := bits_RotateLeft32_c) (lv := bits_RotateLeft32_lv) ?_
  intro xs mem p out h hp
  unfold bits_RotateLeft32_c at h
  split at h
  · cases h
    exact bits_RotateLeft32_w _ _ rfl
  · cases h
end
end Go.Proofs.YtbdajagcinfeeaaDoor.M
