/- Part of the proofs: what functions of the program do: plain functions, and the walks that show it. No condition. -/
import Derived.KernelRfl
import Derived.Test.YtbdajagcinfeeaaDoorProg
import Derived.Test.YtbdajagcinfeeaaDoorLe
import Derived.Test.YtbdajagcinfeeaaDoorFslices
import Derived.Test.YtbdajagcinfeeaaDoorFsha
import Derived.Test.YtbdajagcinfeeaaDoorSwords
import Derived.Test.YtbdajagcinfeeaaDoorSshaS
import Derived.Test.YtbdajagcinfeeaaDoorSmerS
import Derived.Test.YtbdajagcinfeeaaDoorSshaK
set_option linter.unusedVariables false
set_option linter.unusedSimpArgs false
set_option autoImplicit false
namespace Go.Proofs.YtbdajagcinfeeaaDoor.M
open Go
noncomputable section
/-- moneyer/merkle.both -/
def merkle_both (a : Vector UInt8 32) (b : Vector UInt8 32) : Option (Vector UInt8 32) :=
  if ((0 : Nat) < (List.length (List.take ((Int.toNat (32 : Int)) - (Int.toNat (0 : Int))) (List.drop (Int.toNat (0 : Int)) (Vector.toList a))))) ∧ (((0 : Nat) < (List.length (List.take ((Int.toNat (32 : Int)) - (Int.toNat (0 : Int))) (List.drop (Int.toNat (0 : Int)) (Vector.toList b))))) ∧ (((List.length (List.take ((Int.toNat (32 : Int)) - (Int.toNat (0 : Int))) (List.drop (Int.toNat (0 : Int)) (Vector.toList a)))) + (List.length (List.take ((Int.toNat (32 : Int)) - (Int.toNat (0 : Int))) (List.drop (Int.toNat (0 : Int)) (Vector.toList b))))) ≤ (4294967296 : Nat))) then
    if (List.length ((List.take ((Int.toNat (32 : Int)) - (Int.toNat (0 : Int))) (List.drop (Int.toNat (0 : Int)) (Vector.toList a))) ++ (List.take ((Int.toNat (32 : Int)) - (Int.toNat (0 : Int))) (List.drop (Int.toNat (0 : Int)) (Vector.toList b))))) ≤ (1099511627776 : Nat) then
      some (shaSum (Vector.toList (shaSum ((List.take ((Int.toNat (32 : Int)) - (Int.toNat (0 : Int))) (List.drop (Int.toNat (0 : Int)) (Vector.toList a))) ++ (List.take ((Int.toNat (32 : Int)) - (Int.toNat (0 : Int))) (List.drop (Int.toNat (0 : Int)) (Vector.toList b)))))))
    else none
  else none
theorem merkle_both_q (a : Vector UInt8 32) (b : Vector UInt8 32) : merkle_both a b = (if ((0 : Nat) < (List.length (List.take ((Int.toNat (32 : Int)) - (Int.toNat (0 : Int))) (List.drop (Int.toNat (0 : Int)) (Vector.toList a))))) ∧ (((0 : Nat) < (List.length (List.take ((Int.toNat (32 : Int)) - (Int.toNat (0 : Int))) (List.drop (Int.toNat (0 : Int)) (Vector.toList b))))) ∧ (((List.length (List.take ((Int.toNat (32 : Int)) - (Int.toNat (0 : Int))) (List.drop (Int.toNat (0 : Int)) (Vector.toList a)))) + (List.length (List.take ((Int.toNat (32 : Int)) - (Int.toNat (0 : Int))) (List.drop (Int.toNat (0 : Int)) (Vector.toList b))))) ≤ (4294967296 : Nat))) then
    if (List.length ((List.take ((Int.toNat (32 : Int)) - (Int.toNat (0 : Int))) (List.drop (Int.toNat (0 : Int)) (Vector.toList a))) ++ (List.take ((Int.toNat (32 : Int)) - (Int.toNat (0 : Int))) (List.drop (Int.toNat (0 : Int)) (Vector.toList b))))) ≤ (1099511627776 : Nat) then
      some (shaSum (Vector.toList (shaSum ((List.take ((Int.toNat (32 : Int)) - (Int.toNat (0 : Int))) (List.drop (Int.toNat (0 : Int)) (Vector.toList a))) ++ (List.take ((Int.toNat (32 : Int)) - (Int.toNat (0 : Int))) (List.drop (Int.toNat (0 : Int)) (Vector.toList b)))))))
    else none
  else none) := by kernel_rfl
theorem merkle_both_spec (a b : Vector UInt8 32) : merkle_both a b = some (bothV a b) := by
  rw [merkle_both, vtake, vtake, bothV_eq]
  rw [if_pos (by simp), if_pos (by simp)]

end
end Go.Proofs.YtbdajagcinfeeaaDoor.M

namespace Go.Proofs.YtbdajagcinfeeaaDoor.M
open Go
noncomputable section
/-- the loop 0 of moneyer/merkle.above -/
def merkle_above_h0 : Nat → (List PV) → Bool → Int → (List PV) → Option (Bool × List PV)
  | 0, _, _, _, _ => none
  | k + 1, l, sound, i, up => bif decide (i < (((List.length l) : Nat) : Int)) then (bif sound then (bif eqb (decide ((bif true then (if ((w64 ((((List.length l) : Nat) : Int) - (1 : Int))) < (w64 (i + (1 : Int)))) then (w64 ((((List.length l) : Nat) : Int) - (1 : Int))) else (w64 (i + (1 : Int)))) else (if ((w64 ((((List.length l) : Nat) : Int) - (1 : Int))) > (w64 (i + (1 : Int)))) then (w64 ((((List.length l) : Nat) : Int) - (1 : Int))) else (w64 (i + (1 : Int))))) = i)) false then (if (((0 : Int) ≤ i) ∧ (i < (((List.length l) : Nat) : Int))) ∧ ((TY.chk (TY.arr EK.u8 (32 : Nat)) (List.getD l (Int.toNat i) PV.nilp)) = true) then
            if (((0 : Int) ≤ (bif true then (if ((w64 ((((List.length l) : Nat) : Int) - (1 : Int))) < (w64 (i + (1 : Int)))) then (w64 ((((List.length l) : Nat) : Int) - (1 : Int))) else (w64 (i + (1 : Int)))) else (if ((w64 ((((List.length l) : Nat) : Int) - (1 : Int))) > (w64 (i + (1 : Int)))) then (w64 ((((List.length l) : Nat) : Int) - (1 : Int))) else (w64 (i + (1 : Int)))))) ∧ ((bif true then (if ((w64 ((((List.length l) : Nat) : Int) - (1 : Int))) < (w64 (i + (1 : Int)))) then (w64 ((((List.length l) : Nat) : Int) - (1 : Int))) else (w64 (i + (1 : Int)))) else (if ((w64 ((((List.length l) : Nat) : Int) - (1 : Int))) > (w64 (i + (1 : Int)))) then (w64 ((((List.length l) : Nat) : Int) - (1 : Int))) else (w64 (i + (1 : Int))))) < (((List.length l) : Nat) : Int))) ∧ ((TY.chk (TY.arr EK.u8 (32 : Nat)) (List.getD l (Int.toNat (bif true then (if ((w64 ((((List.length l) : Nat) : Int) - (1 : Int))) < (w64 (i + (1 : Int)))) then (w64 ((((List.length l) : Nat) : Int) - (1 : Int))) else (w64 (i + (1 : Int)))) else (if ((w64 ((((List.length l) : Nat) : Int) - (1 : Int))) > (w64 (i + (1 : Int)))) then (w64 ((((List.length l) : Nat) : Int) - (1 : Int))) else (w64 (i + (1 : Int)))))) PV.nilp)) = true) then
              if (((List.length (up ++ ([(PV.arr EK.u8 (32 : Nat) (bothV (PV.vecv EK.u8 (32 : Nat) (List.getD l (Int.toNat i) PV.nilp)) (PV.vecv EK.u8 (32 : Nat) (List.getD l (Int.toNat (bif true then (if ((w64 ((((List.length l) : Nat) : Int) - (1 : Int))) < (w64 (i + (1 : Int)))) then (w64 ((((List.length l) : Nat) : Int) - (1 : Int))) else (w64 (i + (1 : Int)))) else (if ((w64 ((((List.length l) : Nat) : Int) - (1 : Int))) > (w64 (i + (1 : Int)))) then (w64 ((((List.length l) : Nat) : Int) - (1 : Int))) else (w64 (i + (1 : Int)))))) PV.nilp))))] : List PV))) * (32 : Nat)) ≤ (70368744177664 : Nat)) ∧ ((List.length (up ++ ([(PV.arr EK.u8 (32 : Nat) (bothV (PV.vecv EK.u8 (32 : Nat) (List.getD l (Int.toNat i) PV.nilp)) (PV.vecv EK.u8 (32 : Nat) (List.getD l (Int.toNat (bif true then (if ((w64 ((((List.length l) : Nat) : Int) - (1 : Int))) < (w64 (i + (1 : Int)))) then (w64 ((((List.length l) : Nat) : Int) - (1 : Int))) else (w64 (i + (1 : Int)))) else (if ((w64 ((((List.length l) : Nat) : Int) - (1 : Int))) > (w64 (i + (1 : Int)))) then (w64 ((((List.length l) : Nat) : Int) - (1 : Int))) else (w64 (i + (1 : Int)))))) PV.nilp))))] : List PV))) ≤ (70368744177664 : Nat)) then
                merkle_above_h0 k l (bif true then (bif false then true else (!(decide ((Vector.toList (PV.vecv EK.u8 (32 : Nat) (List.getD l (Int.toNat i) PV.nilp))) = (Vector.toList (PV.vecv EK.u8 (32 : Nat) (List.getD l (Int.toNat (bif true then (if ((w64 ((((List.length l) : Nat) : Int) - (1 : Int))) < (w64 (i + (1 : Int)))) then (w64 ((((List.length l) : Nat) : Int) - (1 : Int))) else (w64 (i + (1 : Int)))) else (if ((w64 ((((List.length l) : Nat) : Int) - (1 : Int))) > (w64 (i + (1 : Int)))) then (w64 ((((List.length l) : Nat) : Int) - (1 : Int))) else (w64 (i + (1 : Int)))))) PV.nilp))))))) else false) (w64 (i + (2 : Int))) (up ++ ([(PV.arr EK.u8 (32 : Nat) (bothV (PV.vecv EK.u8 (32 : Nat) (List.getD l (Int.toNat i) PV.nilp)) (PV.vecv EK.u8 (32 : Nat) (List.getD l (Int.toNat (bif true then (if ((w64 ((((List.length l) : Nat) : Int) - (1 : Int))) < (w64 (i + (1 : Int)))) then (w64 ((((List.length l) : Nat) : Int) - (1 : Int))) else (w64 (i + (1 : Int)))) else (if ((w64 ((((List.length l) : Nat) : Int) - (1 : Int))) > (w64 (i + (1 : Int)))) then (w64 ((((List.length l) : Nat) : Int) - (1 : Int))) else (w64 (i + (1 : Int)))))) PV.nilp))))] : List PV))
              else none
            else none
          else none)
          else (if (((0 : Int) ≤ i) ∧ (i < (((List.length l) : Nat) : Int))) ∧ ((TY.chk (TY.arr EK.u8 (32 : Nat)) (List.getD l (Int.toNat i) PV.nilp)) = true) then
            if (((0 : Int) ≤ (bif true then (if ((w64 ((((List.length l) : Nat) : Int) - (1 : Int))) < (w64 (i + (1 : Int)))) then (w64 ((((List.length l) : Nat) : Int) - (1 : Int))) else (w64 (i + (1 : Int)))) else (if ((w64 ((((List.length l) : Nat) : Int) - (1 : Int))) > (w64 (i + (1 : Int)))) then (w64 ((((List.length l) : Nat) : Int) - (1 : Int))) else (w64 (i + (1 : Int)))))) ∧ ((bif true then (if ((w64 ((((List.length l) : Nat) : Int) - (1 : Int))) < (w64 (i + (1 : Int)))) then (w64 ((((List.length l) : Nat) : Int) - (1 : Int))) else (w64 (i + (1 : Int)))) else (if ((w64 ((((List.length l) : Nat) : Int) - (1 : Int))) > (w64 (i + (1 : Int)))) then (w64 ((((List.length l) : Nat) : Int) - (1 : Int))) else (w64 (i + (1 : Int))))) < (((List.length l) : Nat) : Int))) ∧ ((TY.chk (TY.arr EK.u8 (32 : Nat)) (List.getD l (Int.toNat (bif true then (if ((w64 ((((List.length l) : Nat) : Int) - (1 : Int))) < (w64 (i + (1 : Int)))) then (w64 ((((List.length l) : Nat) : Int) - (1 : Int))) else (w64 (i + (1 : Int)))) else (if ((w64 ((((List.length l) : Nat) : Int) - (1 : Int))) > (w64 (i + (1 : Int)))) then (w64 ((((List.length l) : Nat) : Int) - (1 : Int))) else (w64 (i + (1 : Int)))))) PV.nilp)) = true) then
              if (((List.length (up ++ ([(PV.arr EK.u8 (32 : Nat) (bothV (PV.vecv EK.u8 (32 : Nat) (List.getD l (Int.toNat i) PV.nilp)) (PV.vecv EK.u8 (32 : Nat) (List.getD l (Int.toNat (bif true then (if ((w64 ((((List.length l) : Nat) : Int) - (1 : Int))) < (w64 (i + (1 : Int)))) then (w64 ((((List.length l) : Nat) : Int) - (1 : Int))) else (w64 (i + (1 : Int)))) else (if ((w64 ((((List.length l) : Nat) : Int) - (1 : Int))) > (w64 (i + (1 : Int)))) then (w64 ((((List.length l) : Nat) : Int) - (1 : Int))) else (w64 (i + (1 : Int)))))) PV.nilp))))] : List PV))) * (32 : Nat)) ≤ (70368744177664 : Nat)) ∧ ((List.length (up ++ ([(PV.arr EK.u8 (32 : Nat) (bothV (PV.vecv EK.u8 (32 : Nat) (List.getD l (Int.toNat i) PV.nilp)) (PV.vecv EK.u8 (32 : Nat) (List.getD l (Int.toNat (bif true then (if ((w64 ((((List.length l) : Nat) : Int) - (1 : Int))) < (w64 (i + (1 : Int)))) then (w64 ((((List.length l) : Nat) : Int) - (1 : Int))) else (w64 (i + (1 : Int)))) else (if ((w64 ((((List.length l) : Nat) : Int) - (1 : Int))) > (w64 (i + (1 : Int)))) then (w64 ((((List.length l) : Nat) : Int) - (1 : Int))) else (w64 (i + (1 : Int)))))) PV.nilp))))] : List PV))) ≤ (70368744177664 : Nat)) then
                merkle_above_h0 k l true (w64 (i + (2 : Int))) (up ++ ([(PV.arr EK.u8 (32 : Nat) (bothV (PV.vecv EK.u8 (32 : Nat) (List.getD l (Int.toNat i) PV.nilp)) (PV.vecv EK.u8 (32 : Nat) (List.getD l (Int.toNat (bif true then (if ((w64 ((((List.length l) : Nat) : Int) - (1 : Int))) < (w64 (i + (1 : Int)))) then (w64 ((((List.length l) : Nat) : Int) - (1 : Int))) else (w64 (i + (1 : Int)))) else (if ((w64 ((((List.length l) : Nat) : Int) - (1 : Int))) > (w64 (i + (1 : Int)))) then (w64 ((((List.length l) : Nat) : Int) - (1 : Int))) else (w64 (i + (1 : Int)))))) PV.nilp))))] : List PV))
              else none
            else none
          else none))
        else (if (((0 : Int) ≤ i) ∧ (i < (((List.length l) : Nat) : Int))) ∧ ((TY.chk (TY.arr EK.u8 (32 : Nat)) (List.getD l (Int.toNat i) PV.nilp)) = true) then
          if (((0 : Int) ≤ (bif true then (if ((w64 ((((List.length l) : Nat) : Int) - (1 : Int))) < (w64 (i + (1 : Int)))) then (w64 ((((List.length l) : Nat) : Int) - (1 : Int))) else (w64 (i + (1 : Int)))) else (if ((w64 ((((List.length l) : Nat) : Int) - (1 : Int))) > (w64 (i + (1 : Int)))) then (w64 ((((List.length l) : Nat) : Int) - (1 : Int))) else (w64 (i + (1 : Int)))))) ∧ ((bif true then (if ((w64 ((((List.length l) : Nat) : Int) - (1 : Int))) < (w64 (i + (1 : Int)))) then (w64 ((((List.length l) : Nat) : Int) - (1 : Int))) else (w64 (i + (1 : Int)))) else (if ((w64 ((((List.length l) : Nat) : Int) - (1 : Int))) > (w64 (i + (1 : Int)))) then (w64 ((((List.length l) : Nat) : Int) - (1 : Int))) else (w64 (i + (1 : Int))))) < (((List.length l) : Nat) : Int))) ∧ ((TY.chk (TY.arr EK.u8 (32 : Nat)) (List.getD l (Int.toNat (bif true then (if ((w64 ((((List.length l) : Nat) : Int) - (1 : Int))) < (w64 (i + (1 : Int)))) then (w64 ((((List.length l) : Nat) : Int) - (1 : Int))) else (w64 (i + (1 : Int)))) else (if ((w64 ((((List.length l) : Nat) : Int) - (1 : Int))) > (w64 (i + (1 : Int)))) then (w64 ((((List.length l) : Nat) : Int) - (1 : Int))) else (w64 (i + (1 : Int)))))) PV.nilp)) = true) then
            if (((List.length (up ++ ([(PV.arr EK.u8 (32 : Nat) (bothV (PV.vecv EK.u8 (32 : Nat) (List.getD l (Int.toNat i) PV.nilp)) (PV.vecv EK.u8 (32 : Nat) (List.getD l (Int.toNat (bif true then (if ((w64 ((((List.length l) : Nat) : Int) - (1 : Int))) < (w64 (i + (1 : Int)))) then (w64 ((((List.length l) : Nat) : Int) - (1 : Int))) else (w64 (i + (1 : Int)))) else (if ((w64 ((((List.length l) : Nat) : Int) - (1 : Int))) > (w64 (i + (1 : Int)))) then (w64 ((((List.length l) : Nat) : Int) - (1 : Int))) else (w64 (i + (1 : Int)))))) PV.nilp))))] : List PV))) * (32 : Nat)) ≤ (70368744177664 : Nat)) ∧ ((List.length (up ++ ([(PV.arr EK.u8 (32 : Nat) (bothV (PV.vecv EK.u8 (32 : Nat) (List.getD l (Int.toNat i) PV.nilp)) (PV.vecv EK.u8 (32 : Nat) (List.getD l (Int.toNat (bif true then (if ((w64 ((((List.length l) : Nat) : Int) - (1 : Int))) < (w64 (i + (1 : Int)))) then (w64 ((((List.length l) : Nat) : Int) - (1 : Int))) else (w64 (i + (1 : Int)))) else (if ((w64 ((((List.length l) : Nat) : Int) - (1 : Int))) > (w64 (i + (1 : Int)))) then (w64 ((((List.length l) : Nat) : Int) - (1 : Int))) else (w64 (i + (1 : Int)))))) PV.nilp))))] : List PV))) ≤ (70368744177664 : Nat)) then
              merkle_above_h0 k l false (w64 (i + (2 : Int))) (up ++ ([(PV.arr EK.u8 (32 : Nat) (bothV (PV.vecv EK.u8 (32 : Nat) (List.getD l (Int.toNat i) PV.nilp)) (PV.vecv EK.u8 (32 : Nat) (List.getD l (Int.toNat (bif true then (if ((w64 ((((List.length l) : Nat) : Int) - (1 : Int))) < (w64 (i + (1 : Int)))) then (w64 ((((List.length l) : Nat) : Int) - (1 : Int))) else (w64 (i + (1 : Int)))) else (if ((w64 ((((List.length l) : Nat) : Int) - (1 : Int))) > (w64 (i + (1 : Int)))) then (w64 ((((List.length l) : Nat) : Int) - (1 : Int))) else (w64 (i + (1 : Int)))))) PV.nilp))))] : List PV))
            else none
          else none
        else none))
      else (if (PV.flats up) = true then
        some (sound, up)
      else none)
theorem merkle_above_h0_q (k : Nat) (l : List PV) (sound : Bool) (i : Int) (up : List PV) : merkle_above_h0 (k + 1) l sound i up =
  (bif decide (i < (((List.length l) : Nat) : Int)) then (bif sound then (bif eqb (decide ((bif true then (if ((w64 ((((List.length l) : Nat) : Int) - (1 : Int))) < (w64 (i + (1 : Int)))) then (w64 ((((List.length l) : Nat) : Int) - (1 : Int))) else (w64 (i + (1 : Int)))) else (if ((w64 ((((List.length l) : Nat) : Int) - (1 : Int))) > (w64 (i + (1 : Int)))) then (w64 ((((List.length l) : Nat) : Int) - (1 : Int))) else (w64 (i + (1 : Int))))) = i)) false then (if (((0 : Int) ≤ i) ∧ (i < (((List.length l) : Nat) : Int))) ∧ ((TY.chk (TY.arr EK.u8 (32 : Nat)) (List.getD l (Int.toNat i) PV.nilp)) = true) then
            if (((0 : Int) ≤ (bif true then (if ((w64 ((((List.length l) : Nat) : Int) - (1 : Int))) < (w64 (i + (1 : Int)))) then (w64 ((((List.length l) : Nat) : Int) - (1 : Int))) else (w64 (i + (1 : Int)))) else (if ((w64 ((((List.length l) : Nat) : Int) - (1 : Int))) > (w64 (i + (1 : Int)))) then (w64 ((((List.length l) : Nat) : Int) - (1 : Int))) else (w64 (i + (1 : Int)))))) ∧ ((bif true then (if ((w64 ((((List.length l) : Nat) : Int) - (1 : Int))) < (w64 (i + (1 : Int)))) then (w64 ((((List.length l) : Nat) : Int) - (1 : Int))) else (w64 (i + (1 : Int)))) else (if ((w64 ((((List.length l) : Nat) : Int) - (1 : Int))) > (w64 (i + (1 : Int)))) then (w64 ((((List.length l) : Nat) : Int) - (1 : Int))) else (w64 (i + (1 : Int))))) < (((List.length l) : Nat) : Int))) ∧ ((TY.chk (TY.arr EK.u8 (32 : Nat)) (List.getD l (Int.toNat (bif true then (if ((w64 ((((List.length l) : Nat) : Int) - (1 : Int))) < (w64 (i + (1 : Int)))) then (w64 ((((List.length l) : Nat) : Int) - (1 : Int))) else (w64 (i + (1 : Int)))) else (if ((w64 ((((List.length l) : Nat) : Int) - (1 : Int))) > (w64 (i + (1 : Int)))) then (w64 ((((List.length l) : Nat) : Int) - (1 : Int))) else (w64 (i + (1 : Int)))))) PV.nilp)) = true) then
              if (((List.length (up ++ ([(PV.arr EK.u8 (32 : Nat) (bothV (PV.vecv EK.u8 (32 : Nat) (List.getD l (Int.toNat i) PV.nilp)) (PV.vecv EK.u8 (32 : Nat) (List.getD l (Int.toNat (bif true then (if ((w64 ((((List.length l) : Nat) : Int) - (1 : Int))) < (w64 (i + (1 : Int)))) then (w64 ((((List.length l) : Nat) : Int) - (1 : Int))) else (w64 (i + (1 : Int)))) else (if ((w64 ((((List.length l) : Nat) : Int) - (1 : Int))) > (w64 (i + (1 : Int)))) then (w64 ((((List.length l) : Nat) : Int) - (1 : Int))) else (w64 (i + (1 : Int)))))) PV.nilp))))] : List PV))) * (32 : Nat)) ≤ (70368744177664 : Nat)) ∧ ((List.length (up ++ ([(PV.arr EK.u8 (32 : Nat) (bothV (PV.vecv EK.u8 (32 : Nat) (List.getD l (Int.toNat i) PV.nilp)) (PV.vecv EK.u8 (32 : Nat) (List.getD l (Int.toNat (bif true then (if ((w64 ((((List.length l) : Nat) : Int) - (1 : Int))) < (w64 (i + (1 : Int)))) then (w64 ((((List.length l) : Nat) : Int) - (1 : Int))) else (w64 (i + (1 : Int)))) else (if ((w64 ((((List.length l) : Nat) : Int) - (1 : Int))) > (w64 (i + (1 : Int)))) then (w64 ((((List.length l) : Nat) : Int) - (1 : Int))) else (w64 (i + (1 : Int)))))) PV.nilp))))] : List PV))) ≤ (70368744177664 : Nat)) then
                merkle_above_h0 k l (bif true then (bif false then true else (!(decide ((Vector.toList (PV.vecv EK.u8 (32 : Nat) (List.getD l (Int.toNat i) PV.nilp))) = (Vector.toList (PV.vecv EK.u8 (32 : Nat) (List.getD l (Int.toNat (bif true then (if ((w64 ((((List.length l) : Nat) : Int) - (1 : Int))) < (w64 (i + (1 : Int)))) then (w64 ((((List.length l) : Nat) : Int) - (1 : Int))) else (w64 (i + (1 : Int)))) else (if ((w64 ((((List.length l) : Nat) : Int) - (1 : Int))) > (w64 (i + (1 : Int)))) then (w64 ((((List.length l) : Nat) : Int) - (1 : Int))) else (w64 (i + (1 : Int)))))) PV.nilp))))))) else false) (w64 (i + (2 : Int))) (up ++ ([(PV.arr EK.u8 (32 : Nat) (bothV (PV.vecv EK.u8 (32 : Nat) (List.getD l (Int.toNat i) PV.nilp)) (PV.vecv EK.u8 (32 : Nat) (List.getD l (Int.toNat (bif true then (if ((w64 ((((List.length l) : Nat) : Int) - (1 : Int))) < (w64 (i + (1 : Int)))) then (w64 ((((List.length l) : Nat) : Int) - (1 : Int))) else (w64 (i + (1 : Int)))) else (if ((w64 ((((List.length l) : Nat) : Int) - (1 : Int))) > (w64 (i + (1 : Int)))) then (w64 ((((List.length l) : Nat) : Int) - (1 : Int))) else (w64 (i + (1 : Int)))))) PV.nilp))))] : List PV))
              else none
            else none
          else none)
          else (if (((0 : Int) ≤ i) ∧ (i < (((List.length l) : Nat) : Int))) ∧ ((TY.chk (TY.arr EK.u8 (32 : Nat)) (List.getD l (Int.toNat i) PV.nilp)) = true) then
            if (((0 : Int) ≤ (bif true then (if ((w64 ((((List.length l) : Nat) : Int) - (1 : Int))) < (w64 (i + (1 : Int)))) then (w64 ((((List.length l) : Nat) : Int) - (1 : Int))) else (w64 (i + (1 : Int)))) else (if ((w64 ((((List.length l) : Nat) : Int) - (1 : Int))) > (w64 (i + (1 : Int)))) then (w64 ((((List.length l) : Nat) : Int) - (1 : Int))) else (w64 (i + (1 : Int)))))) ∧ ((bif true then (if ((w64 ((((List.length l) : Nat) : Int) - (1 : Int))) < (w64 (i + (1 : Int)))) then (w64 ((((List.length l) : Nat) : Int) - (1 : Int))) else (w64 (i + (1 : Int)))) else (if ((w64 ((((List.length l) : Nat) : Int) - (1 : Int))) > (w64 (i + (1 : Int)))) then (w64 ((((List.length l) : Nat) : Int) - (1 : Int))) else (w64 (i + (1 : Int))))) < (((List.length l) : Nat) : Int))) ∧ ((TY.chk (TY.arr EK.u8 (32 : Nat)) (List.getD l (Int.toNat (bif true then (if ((w64 ((((List.length l) : Nat) : Int) - (1 : Int))) < (w64 (i + (1 : Int)))) then (w64 ((((List.length l) : Nat) : Int) - (1 : Int))) else (w64 (i + (1 : Int)))) else (if ((w64 ((((List.length l) : Nat) : Int) - (1 : Int))) > (w64 (i + (1 : Int)))) then (w64 ((((List.length l) : Nat) : Int) - (1 : Int))) else (w64 (i + (1 : Int)))))) PV.nilp)) = true) then
              if (((List.length (up ++ ([(PV.arr EK.u8 (32 : Nat) (bothV (PV.vecv EK.u8 (32 : Nat) (List.getD l (Int.toNat i) PV.nilp)) (PV.vecv EK.u8 (32 : Nat) (List.getD l (Int.toNat (bif true then (if ((w64 ((((List.length l) : Nat) : Int) - (1 : Int))) < (w64 (i + (1 : Int)))) then (w64 ((((List.length l) : Nat) : Int) - (1 : Int))) else (w64 (i + (1 : Int)))) else (if ((w64 ((((List.length l) : Nat) : Int) - (1 : Int))) > (w64 (i + (1 : Int)))) then (w64 ((((List.length l) : Nat) : Int) - (1 : Int))) else (w64 (i + (1 : Int)))))) PV.nilp))))] : List PV))) * (32 : Nat)) ≤ (70368744177664 : Nat)) ∧ ((List.length (up ++ ([(PV.arr EK.u8 (32 : Nat) (bothV (PV.vecv EK.u8 (32 : Nat) (List.getD l (Int.toNat i) PV.nilp)) (PV.vecv EK.u8 (32 : Nat) (List.getD l (Int.toNat (bif true then (if ((w64 ((((List.length l) : Nat) : Int) - (1 : Int))) < (w64 (i + (1 : Int)))) then (w64 ((((List.length l) : Nat) : Int) - (1 : Int))) else (w64 (i + (1 : Int)))) else (if ((w64 ((((List.length l) : Nat) : Int) - (1 : Int))) > (w64 (i + (1 : Int)))) then (w64 ((((List.length l) : Nat) : Int) - (1 : Int))) else (w64 (i + (1 : Int)))))) PV.nilp))))] : List PV))) ≤ (70368744177664 : Nat)) then
                merkle_above_h0 k l true (w64 (i + (2 : Int))) (up ++ ([(PV.arr EK.u8 (32 : Nat) (bothV (PV.vecv EK.u8 (32 : Nat) (List.getD l (Int.toNat i) PV.nilp)) (PV.vecv EK.u8 (32 : Nat) (List.getD l (Int.toNat (bif true then (if ((w64 ((((List.length l) : Nat) : Int) - (1 : Int))) < (w64 (i + (1 : Int)))) then (w64 ((((List.length l) : Nat) : Int) - (1 : Int))) else (w64 (i + (1 : Int)))) else (if ((w64 ((((List.length l) : Nat) : Int) - (1 : Int))) > (w64 (i + (1 : Int)))) then (w64 ((((List.length l) : Nat) : Int) - (1 : Int))) else (w64 (i + (1 : Int)))))) PV.nilp))))] : List PV))
              else none
            else none
          else none))
        else (if (((0 : Int) ≤ i) ∧ (i < (((List.length l) : Nat) : Int))) ∧ ((TY.chk (TY.arr EK.u8 (32 : Nat)) (List.getD l (Int.toNat i) PV.nilp)) = true) then
          if (((0 : Int) ≤ (bif true then (if ((w64 ((((List.length l) : Nat) : Int) - (1 : Int))) < (w64 (i + (1 : Int)))) then (w64 ((((List.length l) : Nat) : Int) - (1 : Int))) else (w64 (i + (1 : Int)))) else (if ((w64 ((((List.length l) : Nat) : Int) - (1 : Int))) > (w64 (i + (1 : Int)))) then (w64 ((((List.length l) : Nat) : Int) - (1 : Int))) else (w64 (i + (1 : Int)))))) ∧ ((bif true then (if ((w64 ((((List.length l) : Nat) : Int) - (1 : Int))) < (w64 (i + (1 : Int)))) then (w64 ((((List.length l) : Nat) : Int) - (1 : Int))) else (w64 (i + (1 : Int)))) else (if ((w64 ((((List.length l) : Nat) : Int) - (1 : Int))) > (w64 (i + (1 : Int)))) then (w64 ((((List.length l) : Nat) : Int) - (1 : Int))) else (w64 (i + (1 : Int))))) < (((List.length l) : Nat) : Int))) ∧ ((TY.chk (TY.arr EK.u8 (32 : Nat)) (List.getD l (Int.toNat (bif true then (if ((w64 ((((List.length l) : Nat) : Int) - (1 : Int))) < (w64 (i + (1 : Int)))) then (w64 ((((List.length l) : Nat) : Int) - (1 : Int))) else (w64 (i + (1 : Int)))) else (if ((w64 ((((List.length l) : Nat) : Int) - (1 : Int))) > (w64 (i + (1 : Int)))) then (w64 ((((List.length l) : Nat) : Int) - (1 : Int))) else (w64 (i + (1 : Int)))))) PV.nilp)) = true) then
            if (((List.length (up ++ ([(PV.arr EK.u8 (32 : Nat) (bothV (PV.vecv EK.u8 (32 : Nat) (List.getD l (Int.toNat i) PV.nilp)) (PV.vecv EK.u8 (32 : Nat) (List.getD l (Int.toNat (bif true then (if ((w64 ((((List.length l) : Nat) : Int) - (1 : Int))) < (w64 (i + (1 : Int)))) then (w64 ((((List.length l) : Nat) : Int) - (1 : Int))) else (w64 (i + (1 : Int)))) else (if ((w64 ((((List.length l) : Nat) : Int) - (1 : Int))) > (w64 (i + (1 : Int)))) then (w64 ((((List.length l) : Nat) : Int) - (1 : Int))) else (w64 (i + (1 : Int)))))) PV.nilp))))] : List PV))) * (32 : Nat)) ≤ (70368744177664 : Nat)) ∧ ((List.length (up ++ ([(PV.arr EK.u8 (32 : Nat) (bothV (PV.vecv EK.u8 (32 : Nat) (List.getD l (Int.toNat i) PV.nilp)) (PV.vecv EK.u8 (32 : Nat) (List.getD l (Int.toNat (bif true then (if ((w64 ((((List.length l) : Nat) : Int) - (1 : Int))) < (w64 (i + (1 : Int)))) then (w64 ((((List.length l) : Nat) : Int) - (1 : Int))) else (w64 (i + (1 : Int)))) else (if ((w64 ((((List.length l) : Nat) : Int) - (1 : Int))) > (w64 (i + (1 : Int)))) then (w64 ((((List.length l) : Nat) : Int) - (1 : Int))) else (w64 (i + (1 : Int)))))) PV.nilp))))] : List PV))) ≤ (70368744177664 : Nat)) then
              merkle_above_h0 k l false (w64 (i + (2 : Int))) (up ++ ([(PV.arr EK.u8 (32 : Nat) (bothV (PV.vecv EK.u8 (32 : Nat) (List.getD l (Int.toNat i) PV.nilp)) (PV.vecv EK.u8 (32 : Nat) (List.getD l (Int.toNat (bif true then (if ((w64 ((((List.length l) : Nat) : Int) - (1 : Int))) < (w64 (i + (1 : Int)))) then (w64 ((((List.length l) : Nat) : Int) - (1 : Int))) else (w64 (i + (1 : Int)))) else (if ((w64 ((((List.length l) : Nat) : Int) - (1 : Int))) > (w64 (i + (1 : Int)))) then (w64 ((((List.length l) : Nat) : Int) - (1 : Int))) else (w64 (i + (1 : Int)))))) PV.nilp))))] : List PV))
            else none
          else none
        else none))
      else (if (PV.flats up) = true then
        some (sound, up)
      else none)) := by kernel_rfl
/-- moneyer/merkle.above -/
def merkle_above (k : Nat) (l : List PV) : Option (Bool × List PV) :=
  merkle_above_h0 k l true (0 : Int) ([] : List PV)
theorem merkle_above_q (k : Nat) (l : List PV) : merkle_above k l = (merkle_above_h0 k l true (0 : Int) ([] : List PV)) := by kernel_rfl
theorem merkle_above_round (k : Nat) (l : List PV) (hp : hashesB l = true) (sound : Bool) (i m : Nat) (hi : i < l.length) (hm : m = if i + 1 < l.length then i + 1 else i) (up : List (Vector UInt8 32)) (hup : up.length ≤ i) :
    merkle_above_h0 (k + 1) l sound (i : Int) (hArrs up) = merkle_above_h0 k l (sound && (decide (m = i) || !decide (hOf (l.getD i .nilp) = hOf (l.getD m .nilp)))) ((i : Int) + 2) (hArrs (up ++ [bothV (hOf (l.getD i .nilp)) (hOf (l.getD m .nilp))])) := by
  have hlen := hashesB_len hp
  have hml : m < l.length := by split at hm <;> omega
  have hM : (bif true then (if (w64 (((l.length : Nat) : Int) - 1)) < (w64 ((i : Int) + 1)) then (w64 (((l.length : Nat) : Int) - 1)) else (w64 ((i : Int) + 1))) else (if (w64 (((l.length : Nat) : Int) - 1)) > (w64 ((i : Int) + 1)) then (w64 (((l.length : Nat) : Int) - 1)) else (w64 ((i : Int) + 1)))) = ((m : Nat) : Int) := by
    rw [cond_true, w64_id (by omega) (by omega), w64_id (by omega) (by omega)]
    split at hm <;> split <;> omega
  have c1 := hashesB_at hp hi
  have c2 := hashesB_at hp hml
  have k1 : (((0 : Int) ≤ i) ∧ ((i : Int) < ((l.length : Nat) : Int))) ∧ TY.chk (.arr .u8 32) (List.getD l (Int.toNat (i : Int)) .nilp) = true := ⟨⟨by omega, by omega⟩, c1⟩
  have k2 : (((0 : Int) ≤ ((m : Nat) : Int)) ∧ (((m : Nat) : Int) < ((l.length : Nat) : Int))) ∧ TY.chk (.arr .u8 32) (List.getD l (Int.toNat ((m : Nat) : Int)) .nilp) = true := ⟨⟨by omega, by omega⟩, c2⟩
  have w2 : w64 ((i : Int) + 2) = (i : Int) + 2 := w64_id (by omega) (by omega)
  rw [merkle_above_h0, bif_pos (by omega), hM, w2]
  have hap : hArrs (up ++ [bothV (hOf (l.getD i .nilp)) (hOf (l.getD m .nilp))]) = hArrs up ++ [PV.arr EK.u8 32 (bothV (hOf (l.getD i .nilp)) (hOf (l.getD m .nilp)))] := hArrs_app _ _
  rw [hap]
  cases sound with
  | false =>
    rw [cond_false, if_pos k1, if_pos k2, if_pos (by rw [List.length_append, hArrs_len]; simp only [List.length_cons, List.length_nil]; omega)]
    rfl
  | true =>
    rw [cond_true]
    by_cases e : m = i
    · rw [decide_eq_true (p := (((m : Nat) : Int) = (i : Int))) (by omega), decide_eq_true e, show eqb true false = false from rfl, cond_false, if_pos k1, if_pos k2, if_pos (by rw [List.length_append, hArrs_len]; simp only [List.length_cons, List.length_nil]; omega)]
      rfl
    · rw [decide_eq_false (p := (((m : Nat) : Int) = (i : Int))) (by omega), decide_eq_false e, show eqb false false = true from rfl, cond_true, if_pos k1, if_pos k2, if_pos (by rw [List.length_append, hArrs_len]; simp only [List.length_cons, List.length_nil]; omega)]
      by_cases e2 : Vector.toList (PV.vecv .u8 32 (List.getD l (Int.toNat (i : Int)) .nilp)) = Vector.toList (PV.vecv .u8 32 (List.getD l (Int.toNat ((m : Nat) : Int)) .nilp))
      · have e3 : hOf (l.getD i .nilp) = hOf (l.getD m .nilp) := Vector.toList_inj.1 e2
        rw [decide_eq_true e2, decide_eq_true e3]
        rfl
      · have e3 : ¬ (hOf (l.getD i .nilp) = hOf (l.getD m .nilp)) := fun h => e2 (congrArg Vector.toList h)
        rw [decide_eq_false e2, decide_eq_false e3]
        rfl
theorem merkle_above_gen (l : List PV) (hp : hashesB l = true) : ∀ (m i : Nat) (sound : Bool) (up : List (Vector UInt8 32)), l.length ≤ i + m → up.length ≤ i →
    Ev (fun k => merkle_above_h0 k l sound (i : Int) (hArrs up)) (sound && soundH ((hOfs l).drop i), hArrs (up ++ aboveH ((hOfs l).drop i)))
  | m, i, sound, up, hm, hup => by
    by_cases h0 : l.length ≤ i
    · refine Ev.done fun k => ?_
      rw [hdrop0 l i h0, merkle_above_h0, bif_neg (by omega), if_pos (hArrs_flats up), aboveH_nil, soundH_nil, List.append_nil, Bool.and_true]
    · cases m with
      | zero => omega
      | succ m =>
        have e2 : ((i + 2 : Nat) : Int) = (i : Int) + 2 := by omega
        by_cases h2 : i + 1 < l.length
        · have := merkle_above_gen l hp m (i + 2) (sound && !decide (hOf (l.getD i .nilp) = hOf (l.getD (i + 1) .nilp))) (up ++ [bothV (hOf (l.getD i .nilp)) (hOf (l.getD (i + 1) .nilp))]) (by omega) (by simp; omega)
          rw [Bool.and_assoc, List.append_assoc, e2] at this
          rw [hdrop2 l i h2, aboveH_two, soundH_two]
          exact Ev.step (fun k => (merkle_above_round k l hp sound i (i + 1) (by omega) (by rw [if_pos h2]) up hup).trans (by rw [decide_eq_false (show ¬ (i + 1 = i) by omega), Bool.false_or])) this
        · have h1 : i + 1 = l.length := by omega
          have := merkle_above_gen l hp m (i + 2) sound (up ++ [bothV (hOf (l.getD i .nilp)) (hOf (l.getD i .nilp))]) (by omega) (by simp; omega)
          rw [hdrop0 l (i + 2) (by omega), aboveH_nil, soundH_nil, List.append_nil, Bool.and_true, e2] at this
          rw [hdrop1 l i h1, aboveH_one, soundH_one, Bool.and_true]
          exact Ev.step (fun k => (merkle_above_round k l hp sound i i (by omega) (by rw [if_neg h2]) up hup).trans (by rw [decide_eq_true rfl, Bool.true_or, Bool.and_true])) this
theorem merkle_above_spec (l : List PV) (hp : hashesB l = true) : Ev (fun k => merkle_above k l) (soundH (hOfs l), hArrs (aboveH (hOfs l))) := by
  have := merkle_above_gen l hp l.length 0 true [] (by omega) (by simp)
  rw [List.drop_zero, Bool.true_and, List.nil_append] at this
  exact this

end
end Go.Proofs.YtbdajagcinfeeaaDoor.M

namespace Go.Proofs.YtbdajagcinfeeaaDoor.M
open Go
noncomputable section
/-- the loop 0 of moneyer/merkle.Root -/
def merkle_Root_h0 : Nat → (List PV) → (Vector UInt8 32) → Option (Vector UInt8 32 × Bool)
  | 0, _, _ => none
  | k + 1, l, t2 => bif decide ((((List.length l) : Nat) : Int) = (1 : Int)) then (if (((0 : Int) ≤ (0 : Int)) ∧ ((0 : Int) < (((List.length l) : Nat) : Int))) ∧ ((TY.chk (TY.arr EK.u8 (32 : Nat)) (List.getD l (0 : Nat) PV.nilp)) = true) then
        some ((PV.vecv EK.u8 (32 : Nat) (List.getD l (0 : Nat) PV.nilp)), true)
      else none)
      else (if (hashesB l) = true then
        bif !(soundH (hOfs l)) then (some ((Vector.replicate (32 : Nat) (0 : UInt8)), false))
          else (merkle_Root_h0 k (hArrs (aboveH (hOfs l))) t2)
      else none)
theorem merkle_Root_h0_q (k : Nat) (l : List PV) (t2 : Vector UInt8 32) : merkle_Root_h0 (k + 1) l t2 =
  (bif decide ((((List.length l) : Nat) : Int) = (1 : Int)) then (if (((0 : Int) ≤ (0 : Int)) ∧ ((0 : Int) < (((List.length l) : Nat) : Int))) ∧ ((TY.chk (TY.arr EK.u8 (32 : Nat)) (List.getD l (0 : Nat) PV.nilp)) = true) then
        some ((PV.vecv EK.u8 (32 : Nat) (List.getD l (0 : Nat) PV.nilp)), true)
      else none)
      else (if (hashesB l) = true then
        bif !(soundH (hOfs l)) then (some ((Vector.replicate (32 : Nat) (0 : UInt8)), false))
          else (merkle_Root_h0 k (hArrs (aboveH (hOfs l))) t2)
      else none)) := by kernel_rfl
/-- moneyer/merkle.Root -/
def merkle_Root (k : Nat) (l : List PV) : Option (Vector UInt8 32 × Bool) :=
  bif decide ((((List.length l) : Nat) : Int) = (0 : Int)) then (some ((Vector.replicate (32 : Nat) (0 : UInt8)), false))
    else (merkle_Root_h0 k l (Vector.replicate (32 : Nat) (0 : UInt8)))
theorem merkle_Root_q (k : Nat) (l : List PV) : merkle_Root k l = (bif decide ((((List.length l) : Nat) : Int) = (0 : Int)) then (some ((Vector.replicate (32 : Nat) (0 : UInt8)), false))
    else (merkle_Root_h0 k l (Vector.replicate (32 : Nat) (0 : UInt8)))) := by kernel_rfl
theorem merkle_Root_gen (t : Vector UInt8 32) : ∀ (m : Nat) (x : List (Vector UInt8 32)), x.length ≤ m → x ≠ [] → x.length ≤ 1099511627776 →
    Ev (fun k => merkle_Root_h0 k (hArrs x) t) ((if allSoundH x = true then topH x else hZero), allSoundH x)
  | 0, x, h, h0, _ => absurd (List.length_eq_zero_iff.1 (by omega)) h0
  | m + 1, x, h, h0, hb => by
    have hl := hArrs_len x
    have hpos : 0 < x.length := List.length_pos_iff.2 h0
    by_cases h1 : x.length = 1
    · refine Ev.done fun k => ?_
      have hc := hArrs_chk x hpos
      rw [merkle_Root_h0, bif_pos (by omega), if_pos ⟨⟨by omega, by omega⟩, hc⟩, allSoundH_end (by omega), if_pos rfl, topH_end (by omega), hArrs_get x hpos]
      rfl
    · have hgo : 1 < x.length := by omega
      have ha := aboveH_len x
      have hB := hashesB_arrs hb
      cases hs : soundH x with
      | false =>
        refine Ev.done fun k => ?_
        rw [merkle_Root_h0, bif_neg (by omega), if_pos hB, hOfs_arrs, hs, allSoundH_go hgo, hs]
        rfl
      | true =>
        have := merkle_Root_gen t m (aboveH x) (by omega) (by intro e; rw [e] at ha; simp at ha; omega) (by omega)
        rw [allSoundH_go hgo, hs, Bool.true_and, topH_go hgo]
        refine Ev.step (fun k => ?_) this
        rw [merkle_Root_h0, bif_neg (by omega), if_pos hB, hOfs_arrs, hs]
        rfl
theorem merkle_Root_spec (l : List PV) (hp : hashesB l = true) : Ev (fun k => merkle_Root k l) (rootV (hOfs l), rootB (hOfs l)) := by
  have hlen := hashesB_len hp
  have hl := hOfs_len l
  rw [rootV_eq, rootB_eq]
  by_cases h0 : l = []
  · subst h0
    refine Ev.done fun k => ?_
    rw [merkle_Root, bif_pos (by rfl), if_neg (by simp [hOfs])]
    simp [hOfs, hZero]
  · have hne : hOfs l ≠ [] := by
      intro e
      rw [e] at hl
      exact h0 (List.length_eq_zero_iff.1 hl.symm)
    have := merkle_Root_gen (Vector.replicate 32 0) (hOfs l).length (hOfs l) (Nat.le_refl _) hne (by omega)
    rw [hArrs_ofs hp] at this
    rw [decide_eq_true hne, Bool.true_and]
    simp only [ne_eq, hne, not_false_iff, true_and]
    refine Ev.same (fun k => ?_) this
    have : 0 < l.length := List.length_pos_iff.2 h0
    rw [merkle_Root, bif_neg (by omega)]

end
end Go.Proofs.YtbdajagcinfeeaaDoor.M

namespace Go.Proofs.YtbdajagcinfeeaaDoor.M
open Go
noncomputable section
/-- the loop 0 of moneyer/merkle.Way -/
def merkle_Way_h0 : Nat → (List PV) → Int → (List PV) → Option (Int × List PV)
  | 0, _, _, _ => none
  | k + 1, l, n, way => bif decide ((1 : Int) < (((List.length l) : Nat) : Int)) then (bif decide ((ixor n (1 : Int)) = (((List.length l) : Nat) : Int)) then (if (((0 : Int) ≤ n) ∧ (n < (((List.length l) : Nat) : Int))) ∧ ((TY.chk (TY.arr EK.u8 (32 : Nat)) (List.getD l (Int.toNat n) PV.nilp)) = true) then
          if (((List.length (way ++ ([(TY.eta (TY.arr EK.u8 (32 : Nat)) (List.getD l (Int.toNat n) PV.nilp))] : List PV))) * (32 : Nat)) ≤ (70368744177664 : Nat)) ∧ ((List.length (way ++ ([(TY.eta (TY.arr EK.u8 (32 : Nat)) (List.getD l (Int.toNat n) PV.nilp))] : List PV))) ≤ (70368744177664 : Nat)) then
            if (hashesB l) = true then
              merkle_Way_h0 k (hArrs (aboveH (hOfs l))) (w64 (Int.tdiv n (2 : Int))) (way ++ ([(TY.eta (TY.arr EK.u8 (32 : Nat)) (List.getD l (Int.toNat n) PV.nilp))] : List PV))
            else none
          else none
        else none)
        else (if (((0 : Int) ≤ (ixor n (1 : Int))) ∧ ((ixor n (1 : Int)) < (((List.length l) : Nat) : Int))) ∧ ((TY.chk (TY.arr EK.u8 (32 : Nat)) (List.getD l (Int.toNat (ixor n (1 : Int))) PV.nilp)) = true) then
          if (((List.length (way ++ ([(TY.eta (TY.arr EK.u8 (32 : Nat)) (List.getD l (Int.toNat (ixor n (1 : Int))) PV.nilp))] : List PV))) * (32 : Nat)) ≤ (70368744177664 : Nat)) ∧ ((List.length (way ++ ([(TY.eta (TY.arr EK.u8 (32 : Nat)) (List.getD l (Int.toNat (ixor n (1 : Int))) PV.nilp))] : List PV))) ≤ (70368744177664 : Nat)) then
            if (hashesB l) = true then
              merkle_Way_h0 k (hArrs (aboveH (hOfs l))) (w64 (Int.tdiv n (2 : Int))) (way ++ ([(TY.eta (TY.arr EK.u8 (32 : Nat)) (List.getD l (Int.toNat (ixor n (1 : Int))) PV.nilp))] : List PV))
            else none
          else none
        else none))
      else (if (PV.flats way) = true then
        some ((0 : Int), way)
      else none)
theorem merkle_Way_h0_q (k : Nat) (l : List PV) (n : Int) (way : List PV) : merkle_Way_h0 (k + 1) l n way =
  (bif decide ((1 : Int) < (((List.length l) : Nat) : Int)) then (bif decide ((ixor n (1 : Int)) = (((List.length l) : Nat) : Int)) then (if (((0 : Int) ≤ n) ∧ (n < (((List.length l) : Nat) : Int))) ∧ ((TY.chk (TY.arr EK.u8 (32 : Nat)) (List.getD l (Int.toNat n) PV.nilp)) = true) then
          if (((List.length (way ++ ([(TY.eta (TY.arr EK.u8 (32 : Nat)) (List.getD l (Int.toNat n) PV.nilp))] : List PV))) * (32 : Nat)) ≤ (70368744177664 : Nat)) ∧ ((List.length (way ++ ([(TY.eta (TY.arr EK.u8 (32 : Nat)) (List.getD l (Int.toNat n) PV.nilp))] : List PV))) ≤ (70368744177664 : Nat)) then
            if (hashesB l) = true then
              merkle_Way_h0 k (hArrs (aboveH (hOfs l))) (w64 (Int.tdiv n (2 : Int))) (way ++ ([(TY.eta (TY.arr EK.u8 (32 : Nat)) (List.getD l (Int.toNat n) PV.nilp))] : List PV))
            else none
          else none
        else none)
        else (if (((0 : Int) ≤ (ixor n (1 : Int))) ∧ ((ixor n (1 : Int)) < (((List.length l) : Nat) : Int))) ∧ ((TY.chk (TY.arr EK.u8 (32 : Nat)) (List.getD l (Int.toNat (ixor n (1 : Int))) PV.nilp)) = true) then
          if (((List.length (way ++ ([(TY.eta (TY.arr EK.u8 (32 : Nat)) (List.getD l (Int.toNat (ixor n (1 : Int))) PV.nilp))] : List PV))) * (32 : Nat)) ≤ (70368744177664 : Nat)) ∧ ((List.length (way ++ ([(TY.eta (TY.arr EK.u8 (32 : Nat)) (List.getD l (Int.toNat (ixor n (1 : Int))) PV.nilp))] : List PV))) ≤ (70368744177664 : Nat)) then
            if (hashesB l) = true then
              merkle_Way_h0 k (hArrs (aboveH (hOfs l))) (w64 (Int.tdiv n (2 : Int))) (way ++ ([(TY.eta (TY.arr EK.u8 (32 : Nat)) (List.getD l (Int.toNat (ixor n (1 : Int))) PV.nilp))] : List PV))
            else none
          else none
        else none))
      else (if (PV.flats way) = true then
        some ((0 : Int), way)
      else none)) := by kernel_rfl
/-- moneyer/merkle.Way -/
def merkle_Way (k : Nat) (l : List PV) (n : Int) : Option (Int × List PV) :=
  bif eqb (decide (n < (0 : Int))) false then (bif bif false then true else (decide ((((List.length l) : Nat) : Int) ≤ n)) then (some ((2 : Int), ([] : List PV)))
      else (merkle_Way_h0 k l n ([] : List PV)))
    else (some ((2 : Int), ([] : List PV)))
theorem merkle_Way_q (k : Nat) (l : List PV) (n : Int) : merkle_Way k l n = (bif eqb (decide (n < (0 : Int))) false then (bif bif false then true else (decide ((((List.length l) : Nat) : Int) ≤ n)) then (some ((2 : Int), ([] : List PV)))
      else (merkle_Way_h0 k l n ([] : List PV)))
    else (some ((2 : Int), ([] : List PV)))) := by kernel_rfl
theorem merkle_Way_gen : ∀ (m : Nat) (x w : List (Vector UInt8 32)) (n : Nat), x.length ≤ m → n < x.length → w.length + x.length ≤ 1099511627776 →
    Ev (fun k => merkle_Way_h0 k (hArrs x) (n : Int) (hArrs w)) ((0 : Int), hArrs (w ++ wayGo x n))
  | 0, x, w, n, h, hn, hb => by omega
  | m + 1, x, w, n, h, hn, hb => by
    have hl := hArrs_len x
    have hw := hArrs_len w
    by_cases hgo : 1 < x.length
    · have ha := aboveH_len x
      have hB := hashesB_arrs (l := x) (by omega)
      have hx := xor1 n
      have hxi := ixor_nat n (by omega)
      have hnb := nbr_lt hn
      have this := merkle_Way_gen m (aboveH x) (w ++ [x.getD (nbr n x.length) hZero]) (n / 2) (by omega) (by omega) (by rw [List.length_append, ha]; simp; omega)
      rw [List.append_assoc, List.singleton_append, ← wayGo_go hgo] at this
      have hh : w64 (Int.tdiv (n : Int) 2) = ((n / 2 : Nat) : Int) := by rw [half_int, w64_id (by omega) (by omega)]
      have hap : ∀ y : Vector UInt8 32, hArrs (w ++ [y]) = hArrs w ++ [hArr y] := fun y => hArrs_app w [y]
      rw [hap] at this
      refine Ev.step (fun k => ?_) this
      by_cases c : n ^^^ 1 < x.length
      · have e : nbr n x.length = n ^^^ 1 := by unfold nbr; rw [if_pos c]
        rw [merkle_Way_h0, bif_pos (by omega), hxi, bif_neg (by omega), if_pos ⟨⟨by omega, by omega⟩, hArrs_chk x (i := n ^^^ 1) c⟩, if_pos (by rw [List.length_append, hw]; simp only [List.length_cons, List.length_nil]; omega), if_pos hB, hOfs_arrs, hh, e]
        have : TY.eta (.arr .u8 32) (List.getD (hArrs x) (Int.toNat ((n ^^^ 1 : Nat) : Int)) .nilp) = hArr (x.getD (n ^^^ 1) hZero) := by
          show TY.eta (.arr .u8 32) (List.getD (hArrs x) (n ^^^ 1) .nilp) = _
          rw [hArrs_get x c]; rfl
        rw [this]
      · have e : nbr n x.length = n := by unfold nbr; rw [if_neg c]
        have e1 : n ^^^ 1 = x.length := by split at hx <;> omega
        rw [merkle_Way_h0, bif_pos (by omega), hxi, bif_pos (by omega), if_pos ⟨⟨by omega, by omega⟩, hArrs_chk x (i := n) hn⟩, if_pos (by rw [List.length_append, hw]; simp only [List.length_cons, List.length_nil]; omega), if_pos hB, hOfs_arrs, hh, e]
        have : TY.eta (.arr .u8 32) (List.getD (hArrs x) (Int.toNat ((n : Nat) : Int)) .nilp) = hArr (x.getD n hZero) := by
          show TY.eta (.arr .u8 32) (List.getD (hArrs x) n .nilp) = _
          rw [hArrs_get x hn]; rfl
        rw [this]
    · refine Ev.done fun k => ?_
      rw [merkle_Way_h0, bif_neg (by omega), wayGo_end hgo, List.append_nil, if_pos (hArrs_flats w)]
theorem merkle_Way_spec (l : List PV) (n : Int) (hp : hashesB l = true) : Ev (fun k => merkle_Way k l n) (wayE (hOfs l) n, wayL (hOfs l) n) := by
  have hlen := hashesB_len hp
  have hl := hOfs_len l
  rw [wayE_eq, wayL_eq]
  by_cases h0 : 0 ≤ n
  · by_cases h1 : n < (hOfs l).length
    · have := merkle_Way_gen (hOfs l).length (hOfs l) [] n.toNat (Nat.le_refl _) (by omega) (by simp; omega)
      rw [hArrs_ofs hp, List.nil_append, show ((n.toNat : Nat) : Int) = n by omega] at this
      rw [if_pos ⟨h0, h1⟩, if_pos ⟨h0, h1⟩]
      refine Ev.same (fun k => ?_) this
      rw [merkle_Way, decide_eq_false (p := n < 0) (by omega), decide_eq_false (p := (((List.length l) : Nat) : Int) ≤ n) (by omega)]
      rfl
    · rw [if_neg (by omega), if_neg (by omega)]
      refine Ev.done fun k => ?_
      rw [merkle_Way, decide_eq_false (p := n < 0) (by omega), decide_eq_true (p := (((List.length l) : Nat) : Int) ≤ n) (by omega)]
      rfl
  · rw [if_neg (by omega), if_neg (by omega)]
    refine Ev.done fun k => ?_
    rw [merkle_Way, decide_eq_true (p := n < 0) (by omega)]
    rfl

end
end Go.Proofs.YtbdajagcinfeeaaDoor.M

namespace Go.Proofs.YtbdajagcinfeeaaDoor.M
open Go
noncomputable section
set_option maxRecDepth 100000
set_option maxHeartbeats 0
noncomputable def merkle_both_T : Tbl := [(57, [], slices_Concat_c), (45, [], sha_Twice_c)]
noncomputable def merkle_both_C : CfgW := mkC Tryd.prog theG merkle_both_T 10 0 false
def merkle_both_lv : Nat → List Nat := fun i => []
noncomputable abbrev merkle_both_b : Code := Tryd.f39.body.getD .skip
noncomputable abbrev merkle_both_r : List ResultVar := Tryd.f39.results.toList
def merkle_both_hs : List Nat := []

def merkle_both_enc (r : Vector UInt8 32) : CallOut := ⟨.pv (.arr .u8 32 r), [], true, []⟩
theorem merkle_both_e (a : Vector UInt8 32) (b : Vector UInt8 32) (Q : CallOut → Prop) : evalFnP merkle_both_C merkle_both_lv merkle_both_r merkle_both_hs merkle_both_b [.pv (.arr .u8 32 a), .pv (.arr .u8 32 b)] [] Q =
    ((((0 : Int) ≤ (0 : Int)) ∧ (((0 : Int) ≤ (32 : Int)) ∧ ((32 : Int) ≤ (((32 : Nat) : Nat) : Int)))) ∧ ((((0 : Int) ≤ (0 : Int)) ∧ (((0 : Int) ≤ (32 : Int)) ∧ ((32 : Int) ≤ (((32 : Nat) : Nat) : Int)))) ∧ ((((0 : Nat) < (List.length (List.take ((Int.toNat (32 : Int)) - (Int.toNat (0 : Int))) (List.drop (Int.toNat (0 : Int)) (Vector.toList a))))) ∧ (((0 : Nat) < (List.length (List.take ((Int.toNat (32 : Int)) - (Int.toNat (0 : Int))) (List.drop (Int.toNat (0 : Int)) (Vector.toList b))))) ∧ (((List.length (List.take ((Int.toNat (32 : Int)) - (Int.toNat (0 : Int))) (List.drop (Int.toNat (0 : Int)) (Vector.toList a)))) + (List.length (List.take ((Int.toNat (32 : Int)) - (Int.toNat (0 : Int))) (List.drop (Int.toNat (0 : Int)) (Vector.toList b))))) ≤ (4294967296 : Nat)))) ∧ (((List.length ((List.take ((Int.toNat (32 : Int)) - (Int.toNat (0 : Int))) (List.drop (Int.toNat (0 : Int)) (Vector.toList a))) ++ (List.take ((Int.toNat (32 : Int)) - (Int.toNat (0 : Int))) (List.drop (Int.toNat (0 : Int)) (Vector.toList b))))) ≤ (1099511627776 : Nat)) ∧ (Q (merkle_both_enc (shaSum (Vector.toList (shaSum ((List.take ((Int.toNat (32 : Int)) - (Int.toNat (0 : Int))) (List.drop (Int.toNat (0 : Int)) (Vector.toList a))) ++ (List.take ((Int.toNat (32 : Int)) - (Int.toNat (0 : Int))) (List.drop (Int.toNat (0 : Int)) (Vector.toList b))))))))))))) := by kernel_rfl
theorem merkle_both_w (a : Vector UInt8 32) (b : Vector UInt8 32) {r} {Q : CallOut → Prop} (h : merkle_both a b = some r) (hQ : Q (merkle_both_enc r)) : evalFnP merkle_both_C merkle_both_lv merkle_both_r merkle_both_hs merkle_both_b [.pv (.arr .u8 32 a), .pv (.arr .u8 32 b)] [] Q :=
  Eq.mpr (merkle_both_e a b Q) (have h := (merkle_both_q a b).symm.trans h; ⟨by decide +kernel, ⟨by decide +kernel, ite_ok h fun hc0 h => ite_ok h fun hc1 h => ret_ok (Q := Q) (e := merkle_both_enc) h hQ⟩⟩)
def merkle_both_c : Ans
  | [.pv (.arr .u8 32 a), .pv (.arr .u8 32 b)], [] => some (none, merkle_both_enc (bothV a b))
  | _, _ => none
theorem merkle_both_tok : TblOK Tryd.prog theG merkle_both_T := .cons ⟨by kernel_rfl, slices_Concat_ok⟩ (.cons ⟨by kernel_rfl, sha_Twice_ok⟩ (.nil))
theorem merkle_both_ok : FnOK Tryd.prog theG 39 (unW merkle_both_c) := by
  refine FnOK.ofC (T := merkle_both_T) (nt := 10) (np := 0) (nf := false) (hs := merkle_both_hs) (fn := Tryd.f39) (body := merkle_both_b) merkle_both_tok (by kernel_rfl) (by kernel_rfl) (by kernel_rfl) (by kernel_rfl) (c := merkle_both_c) (lv := merkle_both_lv) ?_
  intro xs mem p out h hp
  unfold merkle_both_c at h
  split at h
  · cases h
    exact merkle_both_w _ _ (merkle_both_spec _ _) rfl
  · cases h
end
end Go.Proofs.YtbdajagcinfeeaaDoor.M

namespace Go.Proofs.YtbdajagcinfeeaaDoor.M
open Go
noncomputable section
set_option maxRecDepth 100000
set_option maxHeartbeats 0
noncomputable def merkle_above_T : Tbl := [(39, [], merkle_both_c)]
noncomputable def merkle_above_C : CfgW := mkC Tryd.prog theG merkle_above_T 51 0 false
def merkle_above_lv : Nat → List Nat := fun i => bif Nat.beq i 0 then [0, 4, 5, 6] else []
noncomputable abbrev merkle_above_b : Code := Tryd.f34.body.getD .skip
noncomputable abbrev merkle_above_r : List ResultVar := Tryd.f34.results.toList
def merkle_above_hs : List Nat := []

def merkle_above_enc (r : Bool × List PV) : CallOut := ⟨.tup [.o 60000, .pv (.sc .b r.1)], [(60000, .row (.p 32 r.2) false)], true, []⟩
def merkle_above_s0 (l : List PV) (sound : Bool) (i : Int) (up : List PV) : St := ⟨[(0, .pv (.sp 32 l)), (4, .o 60000), (5, .pv (.sc .b sound)), (6, .pv (.sc .i i))], [(60000, .row (.p 32 up) false)]⟩
theorem merkle_above_g0 (l : List PV) (sound : Bool) (i : Int) (up : List PV) (Q : CallOut → Prop) : headRound merkle_above_C merkle_above_lv [true, true, true, false, true, false] merkle_above_b (merkle_above_s0 l sound i up) (fnK merkle_above_C merkle_above_r merkle_above_hs Q) =
    (condP (decide (i < (((List.length l) : Nat) : Int))) (condP sound (condP (eqb (decide ((bif true then (if ((w64 ((((List.length l) : Nat) : Int) - (1 : Int))) < (w64 (i + (1 : Int)))) then (w64 ((((List.length l) : Nat) : Int) - (1 : Int))) else (w64 (i + (1 : Int)))) else (if ((w64 ((((List.length l) : Nat) : Int) - (1 : Int))) > (w64 (i + (1 : Int)))) then (w64 ((((List.length l) : Nat) : Int) - (1 : Int))) else (w64 (i + (1 : Int))))) = i)) false) (((((0 : Int) ≤ i) ∧ (i < (((List.length l) : Nat) : Int))) ∧ ((TY.chk (TY.arr EK.u8 (32 : Nat)) (List.getD l (Int.toNat i) PV.nilp)) = true)) ∧ (((((0 : Int) ≤ (bif true then (if ((w64 ((((List.length l) : Nat) : Int) - (1 : Int))) < (w64 (i + (1 : Int)))) then (w64 ((((List.length l) : Nat) : Int) - (1 : Int))) else (w64 (i + (1 : Int)))) else (if ((w64 ((((List.length l) : Nat) : Int) - (1 : Int))) > (w64 (i + (1 : Int)))) then (w64 ((((List.length l) : Nat) : Int) - (1 : Int))) else (w64 (i + (1 : Int)))))) ∧ ((bif true then (if ((w64 ((((List.length l) : Nat) : Int) - (1 : Int))) < (w64 (i + (1 : Int)))) then (w64 ((((List.length l) : Nat) : Int) - (1 : Int))) else (w64 (i + (1 : Int)))) else (if ((w64 ((((List.length l) : Nat) : Int) - (1 : Int))) > (w64 (i + (1 : Int)))) then (w64 ((((List.length l) : Nat) : Int) - (1 : Int))) else (w64 (i + (1 : Int))))) < (((List.length l) : Nat) : Int))) ∧ ((TY.chk (TY.arr EK.u8 (32 : Nat)) (List.getD l (Int.toNat (bif true then (if ((w64 ((((List.length l) : Nat) : Int) - (1 : Int))) < (w64 (i + (1 : Int)))) then (w64 ((((List.length l) : Nat) : Int) - (1 : Int))) else (w64 (i + (1 : Int)))) else (if ((w64 ((((List.length l) : Nat) : Int) - (1 : Int))) > (w64 (i + (1 : Int)))) then (w64 ((((List.length l) : Nat) : Int) - (1 : Int))) else (w64 (i + (1 : Int)))))) PV.nilp)) = true)) ∧ (((((0 : Int) ≤ i) ∧ (i < (((List.length l) : Nat) : Int))) ∧ ((TY.chk (TY.arr EK.u8 (32 : Nat)) (List.getD l (Int.toNat i) PV.nilp)) = true)) ∧ (((((0 : Int) ≤ (bif true then (if ((w64 ((((List.length l) : Nat) : Int) - (1 : Int))) < (w64 (i + (1 : Int)))) then (w64 ((((List.length l) : Nat) : Int) - (1 : Int))) else (w64 (i + (1 : Int)))) else (if ((w64 ((((List.length l) : Nat) : Int) - (1 : Int))) > (w64 (i + (1 : Int)))) then (w64 ((((List.length l) : Nat) : Int) - (1 : Int))) else (w64 (i + (1 : Int)))))) ∧ ((bif true then (if ((w64 ((((List.length l) : Nat) : Int) - (1 : Int))) < (w64 (i + (1 : Int)))) then (w64 ((((List.length l) : Nat) : Int) - (1 : Int))) else (w64 (i + (1 : Int)))) else (if ((w64 ((((List.length l) : Nat) : Int) - (1 : Int))) > (w64 (i + (1 : Int)))) then (w64 ((((List.length l) : Nat) : Int) - (1 : Int))) else (w64 (i + (1 : Int))))) < (((List.length l) : Nat) : Int))) ∧ ((TY.chk (TY.arr EK.u8 (32 : Nat)) (List.getD l (Int.toNat (bif true then (if ((w64 ((((List.length l) : Nat) : Int) - (1 : Int))) < (w64 (i + (1 : Int)))) then (w64 ((((List.length l) : Nat) : Int) - (1 : Int))) else (w64 (i + (1 : Int)))) else (if ((w64 ((((List.length l) : Nat) : Int) - (1 : Int))) > (w64 (i + (1 : Int)))) then (w64 ((((List.length l) : Nat) : Int) - (1 : Int))) else (w64 (i + (1 : Int)))))) PV.nilp)) = true)) ∧ (((((List.length (up ++ ([(PV.arr EK.u8 (32 : Nat) (bothV (PV.vecv EK.u8 (32 : Nat) (List.getD l (Int.toNat i) PV.nilp)) (PV.vecv EK.u8 (32 : Nat) (List.getD l (Int.toNat (bif true then (if ((w64 ((((List.length l) : Nat) : Int) - (1 : Int))) < (w64 (i + (1 : Int)))) then (w64 ((((List.length l) : Nat) : Int) - (1 : Int))) else (w64 (i + (1 : Int)))) else (if ((w64 ((((List.length l) : Nat) : Int) - (1 : Int))) > (w64 (i + (1 : Int)))) then (w64 ((((List.length l) : Nat) : Int) - (1 : Int))) else (w64 (i + (1 : Int)))))) PV.nilp))))] : List PV))) * (32 : Nat)) ≤ (70368744177664 : Nat)) ∧ ((List.length (up ++ ([(PV.arr EK.u8 (32 : Nat) (bothV (PV.vecv EK.u8 (32 : Nat) (List.getD l (Int.toNat i) PV.nilp)) (PV.vecv EK.u8 (32 : Nat) (List.getD l (Int.toNat (bif true then (if ((w64 ((((List.length l) : Nat) : Int) - (1 : Int))) < (w64 (i + (1 : Int)))) then (w64 ((((List.length l) : Nat) : Int) - (1 : Int))) else (w64 (i + (1 : Int)))) else (if ((w64 ((((List.length l) : Nat) : Int) - (1 : Int))) > (w64 (i + (1 : Int)))) then (w64 ((((List.length l) : Nat) : Int) - (1 : Int))) else (w64 (i + (1 : Int)))))) PV.nilp))))] : List PV))) ≤ (70368744177664 : Nat))) ∧ (headP merkle_above_C merkle_above_lv [true, true, true, false, true, false] merkle_above_b (merkle_above_s0 l (bif true then (bif false then true else (!(decide ((Vector.toList (PV.vecv EK.u8 (32 : Nat) (List.getD l (Int.toNat i) PV.nilp))) = (Vector.toList (PV.vecv EK.u8 (32 : Nat) (List.getD l (Int.toNat (bif true then (if ((w64 ((((List.length l) : Nat) : Int) - (1 : Int))) < (w64 (i + (1 : Int)))) then (w64 ((((List.length l) : Nat) : Int) - (1 : Int))) else (w64 (i + (1 : Int)))) else (if ((w64 ((((List.length l) : Nat) : Int) - (1 : Int))) > (w64 (i + (1 : Int)))) then (w64 ((((List.length l) : Nat) : Int) - (1 : Int))) else (w64 (i + (1 : Int)))))) PV.nilp))))))) else false) (w64 (i + (2 : Int))) (up ++ ([(PV.arr EK.u8 (32 : Nat) (bothV (PV.vecv EK.u8 (32 : Nat) (List.getD l (Int.toNat i) PV.nilp)) (PV.vecv EK.u8 (32 : Nat) (List.getD l (Int.toNat (bif true then (if ((w64 ((((List.length l) : Nat) : Int) - (1 : Int))) < (w64 (i + (1 : Int)))) then (w64 ((((List.length l) : Nat) : Int) - (1 : Int))) else (w64 (i + (1 : Int)))) else (if ((w64 ((((List.length l) : Nat) : Int) - (1 : Int))) > (w64 (i + (1 : Int)))) then (w64 ((((List.length l) : Nat) : Int) - (1 : Int))) else (w64 (i + (1 : Int)))))) PV.nilp))))] : List PV))) (fnK merkle_above_C merkle_above_r merkle_above_hs Q))))))) (((((0 : Int) ≤ i) ∧ (i < (((List.length l) : Nat) : Int))) ∧ ((TY.chk (TY.arr EK.u8 (32 : Nat)) (List.getD l (Int.toNat i) PV.nilp)) = true)) ∧ (((((0 : Int) ≤ (bif true then (if ((w64 ((((List.length l) : Nat) : Int) - (1 : Int))) < (w64 (i + (1 : Int)))) then (w64 ((((List.length l) : Nat) : Int) - (1 : Int))) else (w64 (i + (1 : Int)))) else (if ((w64 ((((List.length l) : Nat) : Int) - (1 : Int))) > (w64 (i + (1 : Int)))) then (w64 ((((List.length l) : Nat) : Int) - (1 : Int))) else (w64 (i + (1 : Int)))))) ∧ ((bif true then (if ((w64 ((((List.length l) : Nat) : Int) - (1 : Int))) < (w64 (i + (1 : Int)))) then (w64 ((((List.length l) : Nat) : Int) - (1 : Int))) else (w64 (i + (1 : Int)))) else (if ((w64 ((((List.length l) : Nat) : Int) - (1 : Int))) > (w64 (i + (1 : Int)))) then (w64 ((((List.length l) : Nat) : Int) - (1 : Int))) else (w64 (i + (1 : Int))))) < (((List.length l) : Nat) : Int))) ∧ ((TY.chk (TY.arr EK.u8 (32 : Nat)) (List.getD l (Int.toNat (bif true then (if ((w64 ((((List.length l) : Nat) : Int) - (1 : Int))) < (w64 (i + (1 : Int)))) then (w64 ((((List.length l) : Nat) : Int) - (1 : Int))) else (w64 (i + (1 : Int)))) else (if ((w64 ((((List.length l) : Nat) : Int) - (1 : Int))) > (w64 (i + (1 : Int)))) then (w64 ((((List.length l) : Nat) : Int) - (1 : Int))) else (w64 (i + (1 : Int)))))) PV.nilp)) = true)) ∧ (((((List.length (up ++ ([(PV.arr EK.u8 (32 : Nat) (bothV (PV.vecv EK.u8 (32 : Nat) (List.getD l (Int.toNat i) PV.nilp)) (PV.vecv EK.u8 (32 : Nat) (List.getD l (Int.toNat (bif true then (if ((w64 ((((List.length l) : Nat) : Int) - (1 : Int))) < (w64 (i + (1 : Int)))) then (w64 ((((List.length l) : Nat) : Int) - (1 : Int))) else (w64 (i + (1 : Int)))) else (if ((w64 ((((List.length l) : Nat) : Int) - (1 : Int))) > (w64 (i + (1 : Int)))) then (w64 ((((List.length l) : Nat) : Int) - (1 : Int))) else (w64 (i + (1 : Int)))))) PV.nilp))))] : List PV))) * (32 : Nat)) ≤ (70368744177664 : Nat)) ∧ ((List.length (up ++ ([(PV.arr EK.u8 (32 : Nat) (bothV (PV.vecv EK.u8 (32 : Nat) (List.getD l (Int.toNat i) PV.nilp)) (PV.vecv EK.u8 (32 : Nat) (List.getD l (Int.toNat (bif true then (if ((w64 ((((List.length l) : Nat) : Int) - (1 : Int))) < (w64 (i + (1 : Int)))) then (w64 ((((List.length l) : Nat) : Int) - (1 : Int))) else (w64 (i + (1 : Int)))) else (if ((w64 ((((List.length l) : Nat) : Int) - (1 : Int))) > (w64 (i + (1 : Int)))) then (w64 ((((List.length l) : Nat) : Int) - (1 : Int))) else (w64 (i + (1 : Int)))))) PV.nilp))))] : List PV))) ≤ (70368744177664 : Nat))) ∧ (headP merkle_above_C merkle_above_lv [true, true, true, false, true, false] merkle_above_b (merkle_above_s0 l true (w64 (i + (2 : Int))) (up ++ ([(PV.arr EK.u8 (32 : Nat) (bothV (PV.vecv EK.u8 (32 : Nat) (List.getD l (Int.toNat i) PV.nilp)) (PV.vecv EK.u8 (32 : Nat) (List.getD l (Int.toNat (bif true then (if ((w64 ((((List.length l) : Nat) : Int) - (1 : Int))) < (w64 (i + (1 : Int)))) then (w64 ((((List.length l) : Nat) : Int) - (1 : Int))) else (w64 (i + (1 : Int)))) else (if ((w64 ((((List.length l) : Nat) : Int) - (1 : Int))) > (w64 (i + (1 : Int)))) then (w64 ((((List.length l) : Nat) : Int) - (1 : Int))) else (w64 (i + (1 : Int)))))) PV.nilp))))] : List PV))) (fnK merkle_above_C merkle_above_r merkle_above_hs Q)))))) (((((0 : Int) ≤ i) ∧ (i < (((List.length l) : Nat) : Int))) ∧ ((TY.chk (TY.arr EK.u8 (32 : Nat)) (List.getD l (Int.toNat i) PV.nilp)) = true)) ∧ (((((0 : Int) ≤ (bif true then (if ((w64 ((((List.length l) : Nat) : Int) - (1 : Int))) < (w64 (i + (1 : Int)))) then (w64 ((((List.length l) : Nat) : Int) - (1 : Int))) else (w64 (i + (1 : Int)))) else (if ((w64 ((((List.length l) : Nat) : Int) - (1 : Int))) > (w64 (i + (1 : Int)))) then (w64 ((((List.length l) : Nat) : Int) - (1 : Int))) else (w64 (i + (1 : Int)))))) ∧ ((bif true then (if ((w64 ((((List.length l) : Nat) : Int) - (1 : Int))) < (w64 (i + (1 : Int)))) then (w64 ((((List.length l) : Nat) : Int) - (1 : Int))) else (w64 (i + (1 : Int)))) else (if ((w64 ((((List.length l) : Nat) : Int) - (1 : Int))) > (w64 (i + (1 : Int)))) then (w64 ((((List.length l) : Nat) : Int) - (1 : Int))) else (w64 (i + (1 : Int))))) < (((List.length l) : Nat) : Int))) ∧ ((TY.chk (TY.arr EK.u8 (32 : Nat)) (List.getD l (Int.toNat (bif true then (if ((w64 ((((List.length l) : Nat) : Int) - (1 : Int))) < (w64 (i + (1 : Int)))) then (w64 ((((List.length l) : Nat) : Int) - (1 : Int))) else (w64 (i + (1 : Int)))) else (if ((w64 ((((List.length l) : Nat) : Int) - (1 : Int))) > (w64 (i + (1 : Int)))) then (w64 ((((List.length l) : Nat) : Int) - (1 : Int))) else (w64 (i + (1 : Int)))))) PV.nilp)) = true)) ∧ (((((List.length (up ++ ([(PV.arr EK.u8 (32 : Nat) (bothV (PV.vecv EK.u8 (32 : Nat) (List.getD l (Int.toNat i) PV.nilp)) (PV.vecv EK.u8 (32 : Nat) (List.getD l (Int.toNat (bif true then (if ((w64 ((((List.length l) : Nat) : Int) - (1 : Int))) < (w64 (i + (1 : Int)))) then (w64 ((((List.length l) : Nat) : Int) - (1 : Int))) else (w64 (i + (1 : Int)))) else (if ((w64 ((((List.length l) : Nat) : Int) - (1 : Int))) > (w64 (i + (1 : Int)))) then (w64 ((((List.length l) : Nat) : Int) - (1 : Int))) else (w64 (i + (1 : Int)))))) PV.nilp))))] : List PV))) * (32 : Nat)) ≤ (70368744177664 : Nat)) ∧ ((List.length (up ++ ([(PV.arr EK.u8 (32 : Nat) (bothV (PV.vecv EK.u8 (32 : Nat) (List.getD l (Int.toNat i) PV.nilp)) (PV.vecv EK.u8 (32 : Nat) (List.getD l (Int.toNat (bif true then (if ((w64 ((((List.length l) : Nat) : Int) - (1 : Int))) < (w64 (i + (1 : Int)))) then (w64 ((((List.length l) : Nat) : Int) - (1 : Int))) else (w64 (i + (1 : Int)))) else (if ((w64 ((((List.length l) : Nat) : Int) - (1 : Int))) > (w64 (i + (1 : Int)))) then (w64 ((((List.length l) : Nat) : Int) - (1 : Int))) else (w64 (i + (1 : Int)))))) PV.nilp))))] : List PV))) ≤ (70368744177664 : Nat))) ∧ (headP merkle_above_C merkle_above_lv [true, true, true, false, true, false] merkle_above_b (merkle_above_s0 l false (w64 (i + (2 : Int))) (up ++ ([(PV.arr EK.u8 (32 : Nat) (bothV (PV.vecv EK.u8 (32 : Nat) (List.getD l (Int.toNat i) PV.nilp)) (PV.vecv EK.u8 (32 : Nat) (List.getD l (Int.toNat (bif true then (if ((w64 ((((List.length l) : Nat) : Int) - (1 : Int))) < (w64 (i + (1 : Int)))) then (w64 ((((List.length l) : Nat) : Int) - (1 : Int))) else (w64 (i + (1 : Int)))) else (if ((w64 ((((List.length l) : Nat) : Int) - (1 : Int))) > (w64 (i + (1 : Int)))) then (w64 ((((List.length l) : Nat) : Int) - (1 : Int))) else (w64 (i + (1 : Int)))))) PV.nilp))))] : List PV))) (fnK merkle_above_C merkle_above_r merkle_above_hs Q)))))) (((PV.flats up) = true) ∧ (Q (merkle_above_enc (sound, up))))) := by kernel_rfl
theorem merkle_above_k0 {r : Bool × List PV} {Q : CallOut → Prop} (hQ : Q (merkle_above_enc r)) : ∀ k : Nat, (∀ (l : List PV) (sound : Bool) (i : Int) (up : List PV), merkle_above_h0 k l sound i up = some r → headP merkle_above_C merkle_above_lv [true, true, true, false, true, false] merkle_above_b (merkle_above_s0 l sound i up) (fnK merkle_above_C merkle_above_r merkle_above_hs Q))
  | 0 => fun _ _ _ _ h => no_ok h
  | k + 1 => fun l sound i up h => headP_step (Eq.mpr (merkle_above_g0 l sound i up Q) (have h := (merkle_above_h0_q k l sound i up).symm.trans h; cond_ok h (fun h => cond_ok h (fun h => cond_ok h (fun h => ite_ok h fun hc0 h => ite_ok h fun hc1 h => ⟨hc0, ⟨hc1, ite_ok h fun hc2 h => (merkle_above_k0 hQ k) _ _ _ _ h⟩⟩) (fun h => ite_ok h fun hc0 h => ite_ok h fun hc1 h => ite_ok h fun hc2 h => (merkle_above_k0 hQ k) _ _ _ _ h)) (fun h => ite_ok h fun hc0 h => ite_ok h fun hc1 h => ite_ok h fun hc2 h => (merkle_above_k0 hQ k) _ _ _ _ h)) (fun h => ite_ok h fun hc0 h => ret_ok (Q := Q) (e := merkle_above_enc) h hQ)))
theorem merkle_above_e (l : List PV) (Q : CallOut → Prop) : evalFnP merkle_above_C merkle_above_lv merkle_above_r merkle_above_hs merkle_above_b [.pv (.sp 32 l)] [] Q =
    (headP merkle_above_C merkle_above_lv [true, true, true, false, true, false] merkle_above_b (merkle_above_s0 l true (0 : Int) ([] : List PV)) (fnK merkle_above_C merkle_above_r merkle_above_hs Q)) := by kernel_rfl
theorem merkle_above_w {k : Nat} (l : List PV) {r} {Q : CallOut → Prop} (h : merkle_above k l = some r) (hQ : Q (merkle_above_enc r)) : evalFnP merkle_above_C merkle_above_lv merkle_above_r merkle_above_hs merkle_above_b [.pv (.sp 32 l)] [] Q :=
  Eq.mpr (merkle_above_e l Q) (have h := (merkle_above_q k l).symm.trans h; (merkle_above_k0 hQ _) _ _ _ _ h)
def merkle_above_c : Ans
  | [.pv (.sp 32 l)], [] => some (some (hashesB l = true), merkle_above_enc ((soundH (hOfs l), hArrs (aboveH (hOfs l)))))
  | _, _ => none
theorem merkle_above_tok : TblOK Tryd.prog theG merkle_above_T := .cons ⟨by kernel_rfl, merkle_both_ok⟩ (.nil)
theorem merkle_above_ok : FnOK Tryd.prog theG 34 (unW merkle_above_c) := by
  refine FnOK.ofC (T := merkle_above_T) (nt := 51) (np := 0) (nf := false) (hs := merkle_above_hs) (fn := Tryd.f34) (body := merkle_above_b) merkle_above_tok (by kernel_rfl) (by kernel_rfl) (by kernel_rfl) (by kernel_rfl) (c := merkle_above_c) (lv := merkle_above_lv) ?_
  intro xs mem p out h hp
  unfold merkle_above_c at h
  split at h
  · cases h
    obtain ⟨k, hk⟩ := merkle_above_spec _ hp
    exact merkle_above_w _ hk rfl
  · cases h
end
end Go.Proofs.YtbdajagcinfeeaaDoor.M

namespace Go.Proofs.YtbdajagcinfeeaaDoor.M
open Go
noncomputable section
set_option maxRecDepth 100000
set_option maxHeartbeats 0
noncomputable def merkle_Root_T : Tbl := [(34, [], merkle_above_c)]
noncomputable def merkle_Root_C : CfgW := mkC Tryd.prog theG merkle_Root_T 25 0 false
def merkle_Root_lv : Nat → List Nat := fun i => bif Nat.beq i 0 then [0, 2] else bif Nat.beq i 1000007 then [4] else []
noncomputable abbrev merkle_Root_b : Code := Tryd.f11.body.getD .skip
noncomputable abbrev merkle_Root_r : List ResultVar := Tryd.f11.results.toList
def merkle_Root_hs : List Nat := []

def merkle_Root_enc (r : Vector UInt8 32 × Bool) : CallOut := ⟨.tup [.pv (.arr .u8 32 r.1), .pv (.sc .b r.2)], [], true, []⟩
def merkle_Root_s0 (l : List PV) (t2 : Vector UInt8 32) : St := ⟨[(0, .pv (.sp 32 l)), (2, .p 60000 [])], [(60000, .box (.pv (.arr .u8 32 t2)))]⟩
theorem merkle_Root_g0 (l : List PV) (t2 : Vector UInt8 32) (Q : CallOut → Prop) : headRound merkle_Root_C merkle_Root_lv [true, false, true, true, false, false] merkle_Root_b (merkle_Root_s0 l t2) (fnK merkle_Root_C merkle_Root_r merkle_Root_hs Q) =
    (condP (decide ((((List.length l) : Nat) : Int) = (1 : Int))) (((((0 : Int) ≤ (0 : Int)) ∧ ((0 : Int) < (((List.length l) : Nat) : Int))) ∧ ((TY.chk (TY.arr EK.u8 (32 : Nat)) (List.getD l (0 : Nat) PV.nilp)) = true)) ∧ (Q (merkle_Root_enc ((PV.vecv EK.u8 (32 : Nat) (List.getD l (0 : Nat) PV.nilp)), true)))) (((hashesB l) = true) ∧ (condP (!(soundH (hOfs l))) (Q (merkle_Root_enc ((Vector.replicate (32 : Nat) (0 : UInt8)), false))) (headP merkle_Root_C merkle_Root_lv [true, false, true, true, false, false] merkle_Root_b (merkle_Root_s0 (hArrs (aboveH (hOfs l))) t2) (fnK merkle_Root_C merkle_Root_r merkle_Root_hs Q))))) := by kernel_rfl
theorem merkle_Root_k0 {r : Vector UInt8 32 × Bool} {Q : CallOut → Prop} (hQ : Q (merkle_Root_enc r)) : ∀ k : Nat, (∀ (l : List PV) (t2 : Vector UInt8 32), merkle_Root_h0 k l t2 = some r → headP merkle_Root_C merkle_Root_lv [true, false, true, true, false, false] merkle_Root_b (merkle_Root_s0 l t2) (fnK merkle_Root_C merkle_Root_r merkle_Root_hs Q))
  | 0 => fun _ _ h => no_ok h
  | k + 1 => fun l t2 h => headP_step (Eq.mpr (merkle_Root_g0 l t2 Q) (have h := (merkle_Root_h0_q k l t2).symm.trans h; cond_ok h (fun h => ite_ok h fun hc0 h => ret_ok (Q := Q) (e := merkle_Root_enc) h hQ) (fun h => ite_ok h fun hc0 h => cond_ok h (fun h => ret_ok (Q := Q) (e := merkle_Root_enc) h hQ) (fun h => (merkle_Root_k0 hQ k) _ _ h))))
theorem merkle_Root_e (l : List PV) (Q : CallOut → Prop) : evalFnP merkle_Root_C merkle_Root_lv merkle_Root_r merkle_Root_hs merkle_Root_b [.pv (.sp 32 l)] [] Q =
    (condP (decide ((((List.length l) : Nat) : Int) = (0 : Int))) (Q (merkle_Root_enc ((Vector.replicate (32 : Nat) (0 : UInt8)), false))) (headP merkle_Root_C merkle_Root_lv [true, false, true, true, false, false] merkle_Root_b (merkle_Root_s0 l (Vector.replicate (32 : Nat) (0 : UInt8))) (fnK merkle_Root_C merkle_Root_r merkle_Root_hs Q))) := by kernel_rfl
theorem merkle_Root_w {k : Nat} (l : List PV) {r} {Q : CallOut → Prop} (h : merkle_Root k l = some r) (hQ : Q (merkle_Root_enc r)) : evalFnP merkle_Root_C merkle_Root_lv merkle_Root_r merkle_Root_hs merkle_Root_b [.pv (.sp 32 l)] [] Q :=
  Eq.mpr (merkle_Root_e l Q) (have h := (merkle_Root_q k l).symm.trans h; cond_ok h (fun h => ret_ok (Q := Q) (e := merkle_Root_enc) h hQ) (fun h => (merkle_Root_k0 hQ _) _ _ h))
def merkle_Root_c : Ans
  | [.pv (.sp 32 l)], [] => some (some (hashesB l = true), merkle_Root_enc ((rootV (hOfs l), rootB (hOfs l))))
  | _, _ => none
theorem merkle_Root_tok : TblOK Tryd.prog theG merkle_Root_T := .cons ⟨by kernel_rfl, merkle_above_ok⟩ (.nil)
theorem merkle_Root_ok : FnOK Tryd.prog theG 11 (unW merkle_Root_c) := by
  refine FnOK.ofC (T := merkle_Root_T) (nt := 25) (np := 0) (nf := false) (hs := merkle_Root_hs) (fn := Tryd.f11) (body := merkle_Root_b) merkle_Root_tok (by kernel_rfl) (by kernel_rfl) (by kernel_rfl) (by kernel_rfl) (c := merkle_Root_c) (lv := merkle_Root_lv) ?_
  intro xs mem p out h hp
  unfold merkle_Root_c at h
  split at h
  · cases h
    obtain ⟨k, hk⟩ := merkle_Root_spec _ hp
    exact merkle_Root_w _ hk rfl
  · cases h
end
end Go.Proofs.YtbdajagcinfeeaaDoor.M

namespace Go.Proofs.YtbdajagcinfeeaaDoor.M
open Go
noncomputable section
set_option maxRecDepth 100000
set_option maxHeartbeats 0
noncomputable def merkle_Way_T : Tbl := [(34, [], merkle_above_c)]
noncomputable def merkle_Way_C : CfgW := mkC Tryd.prog theG merkle_Way_T 41 0 false
def merkle_Way_lv : Nat → List Nat := fun i => bif Nat.beq i 0 then [0, 1, 6] else bif Nat.beq i 1000010 then [0] else []
noncomputable abbrev merkle_Way_b : Code := Tryd.f14.body.getD .skip
noncomputable abbrev merkle_Way_r : List ResultVar := Tryd.f14.results.toList
def merkle_Way_hs : List Nat := []

def merkle_Way_enc (r : Int × List PV) : CallOut := ⟨.tup [.o 60000, .pv (.sc .i r.1)], [(60000, .row (.p 32 r.2) false)], true, []⟩
def merkle_Way_s0 (l : List PV) (n : Int) (way : List PV) : St := ⟨[(0, .pv (.sp 32 l)), (1, .pv (.sc .i n)), (6, .o 60000)], [(60000, .row (.p 32 way) false)]⟩
theorem merkle_Way_g0 (l : List PV) (n : Int) (way : List PV) (Q : CallOut → Prop) : headRound merkle_Way_C merkle_Way_lv [true, true, true, false, false] merkle_Way_b (merkle_Way_s0 l n way) (fnK merkle_Way_C merkle_Way_r merkle_Way_hs Q) =
    (condP (decide ((1 : Int) < (((List.length l) : Nat) : Int))) (condP (decide ((ixor n (1 : Int)) = (((List.length l) : Nat) : Int))) (((((0 : Int) ≤ n) ∧ (n < (((List.length l) : Nat) : Int))) ∧ ((TY.chk (TY.arr EK.u8 (32 : Nat)) (List.getD l (Int.toNat n) PV.nilp)) = true)) ∧ (((((List.length (way ++ ([(TY.eta (TY.arr EK.u8 (32 : Nat)) (List.getD l (Int.toNat n) PV.nilp))] : List PV))) * (32 : Nat)) ≤ (70368744177664 : Nat)) ∧ ((List.length (way ++ ([(TY.eta (TY.arr EK.u8 (32 : Nat)) (List.getD l (Int.toNat n) PV.nilp))] : List PV))) ≤ (70368744177664 : Nat))) ∧ (((hashesB l) = true) ∧ (((2 : Int) ≠ (0 : Int)) ∧ (headP merkle_Way_C merkle_Way_lv [true, true, true, false, false] merkle_Way_b (merkle_Way_s0 (hArrs (aboveH (hOfs l))) (w64 (Int.tdiv n (2 : Int))) (way ++ ([(TY.eta (TY.arr EK.u8 (32 : Nat)) (List.getD l (Int.toNat n) PV.nilp))] : List PV))) (fnK merkle_Way_C merkle_Way_r merkle_Way_hs Q)))))) (((((0 : Int) ≤ (ixor n (1 : Int))) ∧ ((ixor n (1 : Int)) < (((List.length l) : Nat) : Int))) ∧ ((TY.chk (TY.arr EK.u8 (32 : Nat)) (List.getD l (Int.toNat (ixor n (1 : Int))) PV.nilp)) = true)) ∧ (((((List.length (way ++ ([(TY.eta (TY.arr EK.u8 (32 : Nat)) (List.getD l (Int.toNat (ixor n (1 : Int))) PV.nilp))] : List PV))) * (32 : Nat)) ≤ (70368744177664 : Nat)) ∧ ((List.length (way ++ ([(TY.eta (TY.arr EK.u8 (32 : Nat)) (List.getD l (Int.toNat (ixor n (1 : Int))) PV.nilp))] : List PV))) ≤ (70368744177664 : Nat))) ∧ (((hashesB l) = true) ∧ (((2 : Int) ≠ (0 : Int)) ∧ (headP merkle_Way_C merkle_Way_lv [true, true, true, false, false] merkle_Way_b (merkle_Way_s0 (hArrs (aboveH (hOfs l))) (w64 (Int.tdiv n (2 : Int))) (way ++ ([(TY.eta (TY.arr EK.u8 (32 : Nat)) (List.getD l (Int.toNat (ixor n (1 : Int))) PV.nilp))] : List PV))) (fnK merkle_Way_C merkle_Way_r merkle_Way_hs Q))))))) (((PV.flats way) = true) ∧ (Q (merkle_Way_enc ((0 : Int), way))))) := by kernel_rfl
theorem merkle_Way_k0 {r : Int × List PV} {Q : CallOut → Prop} (hQ : Q (merkle_Way_enc r)) : ∀ k : Nat, (∀ (l : List PV) (n : Int) (way : List PV), merkle_Way_h0 k l n way = some r → headP merkle_Way_C merkle_Way_lv [true, true, true, false, false] merkle_Way_b (merkle_Way_s0 l n way) (fnK merkle_Way_C merkle_Way_r merkle_Way_hs Q))
  | 0 => fun _ _ _ h => no_ok h
  | k + 1 => fun l n way h => headP_step (Eq.mpr (merkle_Way_g0 l n way Q) (have h := (merkle_Way_h0_q k l n way).symm.trans h; cond_ok h (fun h => cond_ok h (fun h => ite_ok h fun hc0 h => ite_ok h fun hc1 h => ite_ok h fun hc2 h => ⟨by decide +kernel, (merkle_Way_k0 hQ k) _ _ _ h⟩) (fun h => ite_ok h fun hc0 h => ite_ok h fun hc1 h => ite_ok h fun hc2 h => ⟨by decide +kernel, (merkle_Way_k0 hQ k) _ _ _ h⟩)) (fun h => ite_ok h fun hc0 h => ret_ok (Q := Q) (e := merkle_Way_enc) h hQ)))
theorem merkle_Way_e (l : List PV) (n : Int) (Q : CallOut → Prop) : evalFnP merkle_Way_C merkle_Way_lv merkle_Way_r merkle_Way_hs merkle_Way_b [.pv (.sp 32 l), .pv (.sc .i n)] [] Q =
    (condP (eqb (decide (n < (0 : Int))) false) (condP (bif false then true else (decide ((((List.length l) : Nat) : Int) ≤ n))) (((PV.flats ([] : List PV)) = true) ∧ (Q (merkle_Way_enc ((2 : Int), ([] : List PV))))) (headP merkle_Way_C merkle_Way_lv [true, true, true, false, false] merkle_Way_b (merkle_Way_s0 l n ([] : List PV)) (fnK merkle_Way_C merkle_Way_r merkle_Way_hs Q))) (((PV.flats ([] : List PV)) = true) ∧ (Q (merkle_Way_enc ((2 : Int), ([] : List PV)))))) := by kernel_rfl
theorem merkle_Way_w {k : Nat} (l : List PV) (n : Int) {r} {Q : CallOut → Prop} (h : merkle_Way k l n = some r) (hQ : Q (merkle_Way_enc r)) : evalFnP merkle_Way_C merkle_Way_lv merkle_Way_r merkle_Way_hs merkle_Way_b [.pv (.sp 32 l), .pv (.sc .i n)] [] Q :=
  Eq.mpr (merkle_Way_e l n Q) (have h := (merkle_Way_q k l n).symm.trans h; cond_ok h (fun h => cond_ok h (fun h => ⟨by decide +kernel, ret_ok (Q := Q) (e := merkle_Way_enc) h hQ⟩) (fun h => (merkle_Way_k0 hQ _) _ _ _ h)) (fun h => ⟨by decide +kernel, ret_ok (Q := Q) (e := merkle_Way_enc) h hQ⟩))
def merkle_Way_c : Ans
  | [.pv (.sp 32 l), .pv (.sc .i n)], [] => some (some (hashesB l = true), merkle_Way_enc ((wayE (hOfs l) n, wayL (hOfs l) n)))
  | _, _ => none
theorem merkle_Way_tok : TblOK Tryd.prog theG merkle_Way_T := .cons ⟨by kernel_rfl, merkle_above_ok⟩ (.nil)
theorem merkle_Way_ok : FnOK Tryd.prog theG 14 (unW merkle_Way_c) := by
  refine FnOK.ofC (T := merkle_Way_T) (nt := 41) (np := 0) (nf := false) (hs := merkle_Way_hs) (fn := Tryd.f14) (body := merkle_Way_b) merkle_Way_tok (by kernel_rfl) (by kernel_rfl) (by kernel_rfl) (by kernel_rfl) (c := merkle_Way_c) (lv := merkle_Way_lv) ?_
  intro xs mem p out h hp
  unfold merkle_Way_c at h
  split at h
  · cases h
    obtain ⟨k, hk⟩ := merkle_Way_spec _ _ hp
    exact merkle_Way_w _ _ hk rfl
  · cases h
end
end Go.Proofs.YtbdajagcinfeeaaDoor.M
