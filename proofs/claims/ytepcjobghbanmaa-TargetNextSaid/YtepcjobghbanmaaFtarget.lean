/- Part of the proofs: what functions of the program do: plain functions, and the walks that show it. No condition. -/
import Derived.KernelRfl
import Derived.Test.YtepcjobghbanmaaProg
import Derived.Test.YtepcjobghbanmaaLd
import Derived.Test.YtepcjobghbanmaaFbig
import Derived.Test.YtepcjobghbanmaaSwords
import Derived.Test.YtepcjobghbanmaaSbigS
import Derived.Test.YtepcjobghbanmaaSbigB
import Derived.Test.YtepcjobghbanmaaStarS
set_option linter.unusedVariables false
set_option linter.unusedSimpArgs false
set_option autoImplicit false
namespace Go.Proofs.Ytepcjobghbanmaa.M
open Go
noncomputable section
/-- moneyer/target.Bits -/
def target_Bits (t : Vector UInt64 4) : Option (UInt32) :=
  bif decide ((w64 (Int.tdiv (w64 ((((lenN (uV t)) : Nat) : Int) + (7 : Int))) (8 : Int))) = (0 : Int)) then (some (0 : UInt32))
    else (if ((-(9223372036854775808 : Int)) ≤ (w64 ((8 : Int) * (w64 ((3 : Int) - (w64 (Int.tdiv (w64 ((((lenN (uV t)) : Nat) : Int) + (7 : Int))) (8 : Int)))))))) ∧ ((w64 ((8 : Int) * (w64 ((3 : Int) - (w64 (Int.tdiv (w64 ((((lenN (uV t)) : Nat) : Int) + (7 : Int))) (8 : Int))))))) < (9223372036854775808 : Int)) then
      bif decide ((3 : Int) < (w64 (Int.tdiv (w64 ((((lenN (uV t)) : Nat) : Int) + (7 : Int))) (8 : Int)))) then (if ((-(9223372036854775808 : Int)) ≤ (w64 ((8 : Int) * (w64 ((w64 (Int.tdiv (w64 ((((lenN (uV t)) : Nat) : Int) + (7 : Int))) (8 : Int))) - (3 : Int)))))) ∧ ((w64 ((8 : Int) * (w64 ((w64 (Int.tdiv (w64 ((((lenN (uV t)) : Nat) : Int) + (7 : Int))) (8 : Int))) - (3 : Int))))) < (9223372036854775808 : Int)) then
          bif decide ((8388607 : UInt64) < (List.getD (Vector.toList (uW ((uV t) / ((2 : Nat) ^ (Int.toNat (w64 ((8 : Int) * (w64 ((w64 (Int.tdiv (w64 ((((lenN (uV t)) : Nat) : Int) + (7 : Int))) (8 : Int))) - (3 : Int)))))))))) (0 : Nat) (0 : UInt64))) then (some ((shl_u32 (UInt32.ofInt (w64 ((w64 (Int.tdiv (w64 ((((lenN (uV t)) : Nat) : Int) + (7 : Int))) (8 : Int))) + (1 : Int)))) (24 : Nat)) ||| (UInt64.toUInt32 (shr_u64 (List.getD (Vector.toList (uW ((uV t) / ((2 : Nat) ^ (Int.toNat (w64 ((8 : Int) * (w64 ((w64 (Int.tdiv (w64 ((((lenN (uV t)) : Nat) : Int) + (7 : Int))) (8 : Int))) - (3 : Int)))))))))) (0 : Nat) (0 : UInt64)) (8 : Nat)))))
            else (some ((shl_u32 (UInt32.ofInt (w64 (Int.tdiv (w64 ((((lenN (uV t)) : Nat) : Int) + (7 : Int))) (8 : Int)))) (24 : Nat)) ||| (UInt64.toUInt32 (List.getD (Vector.toList (uW ((uV t) / ((2 : Nat) ^ (Int.toNat (w64 ((8 : Int) * (w64 ((w64 (Int.tdiv (w64 ((((lenN (uV t)) : Nat) : Int) + (7 : Int))) (8 : Int))) - (3 : Int)))))))))) (0 : Nat) (0 : UInt64)))))
        else none)
        else (bif decide ((8388607 : UInt64) < (List.getD (Vector.toList (uW ((uV t) * ((2 : Nat) ^ (Int.toNat (w64 ((8 : Int) * (w64 ((3 : Int) - (w64 (Int.tdiv (w64 ((((lenN (uV t)) : Nat) : Int) + (7 : Int))) (8 : Int)))))))))))) (0 : Nat) (0 : UInt64))) then (some ((shl_u32 (UInt32.ofInt (w64 ((w64 (Int.tdiv (w64 ((((lenN (uV t)) : Nat) : Int) + (7 : Int))) (8 : Int))) + (1 : Int)))) (24 : Nat)) ||| (UInt64.toUInt32 (shr_u64 (List.getD (Vector.toList (uW ((uV t) * ((2 : Nat) ^ (Int.toNat (w64 ((8 : Int) * (w64 ((3 : Int) - (w64 (Int.tdiv (w64 ((((lenN (uV t)) : Nat) : Int) + (7 : Int))) (8 : Int)))))))))))) (0 : Nat) (0 : UInt64)) (8 : Nat)))))
          else (some ((shl_u32 (UInt32.ofInt (w64 (Int.tdiv (w64 ((((lenN (uV t)) : Nat) : Int) + (7 : Int))) (8 : Int)))) (24 : Nat)) ||| (UInt64.toUInt32 (List.getD (Vector.toList (uW ((uV t) * ((2 : Nat) ^ (Int.toNat (w64 ((8 : Int) * (w64 ((3 : Int) - (w64 (Int.tdiv (w64 ((((lenN (uV t)) : Nat) : Int) + (7 : Int))) (8 : Int)))))))))))) (0 : Nat) (0 : UInt64))))))
    else none)
theorem target_Bits_q (t : Vector UInt64 4) : target_Bits t = (bif decide ((w64 (Int.tdiv (w64 ((((lenN (uV t)) : Nat) : Int) + (7 : Int))) (8 : Int))) = (0 : Int)) then (some (0 : UInt32))
    else (if ((-(9223372036854775808 : Int)) ≤ (w64 ((8 : Int) * (w64 ((3 : Int) - (w64 (Int.tdiv (w64 ((((lenN (uV t)) : Nat) : Int) + (7 : Int))) (8 : Int)))))))) ∧ ((w64 ((8 : Int) * (w64 ((3 : Int) - (w64 (Int.tdiv (w64 ((((lenN (uV t)) : Nat) : Int) + (7 : Int))) (8 : Int))))))) < (9223372036854775808 : Int)) then
      bif decide ((3 : Int) < (w64 (Int.tdiv (w64 ((((lenN (uV t)) : Nat) : Int) + (7 : Int))) (8 : Int)))) then (if ((-(9223372036854775808 : Int)) ≤ (w64 ((8 : Int) * (w64 ((w64 (Int.tdiv (w64 ((((lenN (uV t)) : Nat) : Int) + (7 : Int))) (8 : Int))) - (3 : Int)))))) ∧ ((w64 ((8 : Int) * (w64 ((w64 (Int.tdiv (w64 ((((lenN (uV t)) : Nat) : Int) + (7 : Int))) (8 : Int))) - (3 : Int))))) < (9223372036854775808 : Int)) then
          bif decide ((8388607 : UInt64) < (List.getD (Vector.toList (uW ((uV t) / ((2 : Nat) ^ (Int.toNat (w64 ((8 : Int) * (w64 ((w64 (Int.tdiv (w64 ((((lenN (uV t)) : Nat) : Int) + (7 : Int))) (8 : Int))) - (3 : Int)))))))))) (0 : Nat) (0 : UInt64))) then (some ((shl_u32 (UInt32.ofInt (w64 ((w64 (Int.tdiv (w64 ((((lenN (uV t)) : Nat) : Int) + (7 : Int))) (8 : Int))) + (1 : Int)))) (24 : Nat)) ||| (UInt64.toUInt32 (shr_u64 (List.getD (Vector.toList (uW ((uV t) / ((2 : Nat) ^ (Int.toNat (w64 ((8 : Int) * (w64 ((w64 (Int.tdiv (w64 ((((lenN (uV t)) : Nat) : Int) + (7 : Int))) (8 : Int))) - (3 : Int)))))))))) (0 : Nat) (0 : UInt64)) (8 : Nat)))))
            else (some ((shl_u32 (UInt32.ofInt (w64 (Int.tdiv (w64 ((((lenN (uV t)) : Nat) : Int) + (7 : Int))) (8 : Int)))) (24 : Nat)) ||| (UInt64.toUInt32 (List.getD (Vector.toList (uW ((uV t) / ((2 : Nat) ^ (Int.toNat (w64 ((8 : Int) * (w64 ((w64 (Int.tdiv (w64 ((((lenN (uV t)) : Nat) : Int) + (7 : Int))) (8 : Int))) - (3 : Int)))))))))) (0 : Nat) (0 : UInt64)))))
        else none)
        else (bif decide ((8388607 : UInt64) < (List.getD (Vector.toList (uW ((uV t) * ((2 : Nat) ^ (Int.toNat (w64 ((8 : Int) * (w64 ((3 : Int) - (w64 (Int.tdiv (w64 ((((lenN (uV t)) : Nat) : Int) + (7 : Int))) (8 : Int)))))))))))) (0 : Nat) (0 : UInt64))) then (some ((shl_u32 (UInt32.ofInt (w64 ((w64 (Int.tdiv (w64 ((((lenN (uV t)) : Nat) : Int) + (7 : Int))) (8 : Int))) + (1 : Int)))) (24 : Nat)) ||| (UInt64.toUInt32 (shr_u64 (List.getD (Vector.toList (uW ((uV t) * ((2 : Nat) ^ (Int.toNat (w64 ((8 : Int) * (w64 ((3 : Int) - (w64 (Int.tdiv (w64 ((((lenN (uV t)) : Nat) : Int) + (7 : Int))) (8 : Int)))))))))))) (0 : Nat) (0 : UInt64)) (8 : Nat)))))
          else (some ((shl_u32 (UInt32.ofInt (w64 (Int.tdiv (w64 ((((lenN (uV t)) : Nat) : Int) + (7 : Int))) (8 : Int)))) (24 : Nat)) ||| (UInt64.toUInt32 (List.getD (Vector.toList (uW ((uV t) * ((2 : Nat) ^ (Int.toNat (w64 ((8 : Int) * (w64 ((3 : Int) - (w64 (Int.tdiv (w64 ((((lenN (uV t)) : Nat) : Int) + (7 : Int))) (8 : Int)))))))))))) (0 : Nat) (0 : UInt64))))))
    else none)) := by kernel_rfl
theorem target_Bits_end (n : Nat) (X : UInt64) (t : Nat) (hn : n = byN t) (ht : t ≠ 0) (h256 : t < 2 ^ 256) (hX : X.toNat = preX t) (R : Vector UInt64 4) (hR : uV R = t) :
    (bif decide ((8388607 : UInt64) < X) then (some ((shl_u32 (UInt32.ofInt (w64 (((n : Nat) : Int) + 1))) 24) ||| (UInt64.toUInt32 (shr_u64 X 8)))) else (some ((shl_u32 (UInt32.ofInt ((n : Nat) : Int)) 24) ||| (UInt64.toUInt32 X)))) = some (bitsW R) := by
  obtain ⟨p1, p2⟩ := bits_pre ht
  have hb := byN_le h256
  have val : ∀ y : UInt32, y.toNat = bitsN t → some y = some (bitsW R) := by
    intro y hy
    exact congrArg some (UInt32.toNat_inj.1 (hy.trans (by rw [bitsW_val, hR])))
  by_cases c : (8388607 : UInt64) < X
  · rw [bif_pos c, show w64 (((n : Nat) : Int) + 1) = ((n + 1 : Nat) : Int) by rw [w64_id (by omega) (by omega)]; omega]
    rw [UInt64.lt_iff_toNat_lt, hX, show (8388607 : UInt64).toNat = 8388607 from rfl] at c
    have e : (UInt64.toUInt32 (shr_u64 X 8)).toNat = preX t / 256 := by
      rw [UInt64.toNat_toUInt32, shr_val _ _ (by omega), hX]
      omega
    refine val _ ?_
    rw [sh24 _ _ (by omega) (by omega), e, p2, if_pos c, hn]
  · rw [bif_neg c]
    rw [UInt64.lt_iff_toNat_lt, hX, show (8388607 : UInt64).toNat = 8388607 from rfl] at c
    have e : (UInt64.toUInt32 X).toNat = preX t := by
      rw [UInt64.toNat_toUInt32, hX]
      omega
    refine val _ ?_
    rw [sh24 _ _ (by omega) (by omega), e, p2, if_neg c, hn]
theorem target_Bits_spec (t : Vector UInt64 4) : target_Bits t = some (bitsW t) := by
  have h256 : uV t < 2 ^ 256 := by rw [two256]; exact uV_lt t
  have hL : lenN (uV t) ≤ 256 := lenN_le.2 h256
  have hb := byN_le h256
  have e1 : w64 (((lenN (uV t) : Nat) : Int) + 7) = ((lenN (uV t) + 7 : Nat) : Int) := by rw [w64_id (by omega) (by omega)]; omega
  have e2 : w64 (Int.tdiv ((lenN (uV t) + 7 : Nat) : Int) 8) = ((byN (uV t) : Nat) : Int) := by
    rw [show Int.tdiv ((lenN (uV t) + 7 : Nat) : Int) 8 = (((lenN (uV t) + 7) / 8 : Nat) : Int) from rfl, w64_nat (by omega)]
    rfl
  rw [target_Bits, e1, e2]
  by_cases c0 : byN (uV t) = 0
  · rw [bif_pos (by omega), bitsW_eq, byN_zero.1 c0]
    unfold bitsN
    rw [if_pos rfl]
    rfl
  have ht : uV t ≠ 0 := fun e => c0 (byN_zero.2 e)
  have hp := (bits_pre ht).1
  rw [bif_neg (by omega)]
  have e3 : w64 ((8 : Int) * w64 ((3 : Int) - ((byN (uV t) : Nat) : Int))) = (8 : Int) * (3 - ((byN (uV t) : Nat) : Int)) := by
    rw [w64_id (x := (3 : Int) - ((byN (uV t) : Nat) : Int)) (by omega) (by omega), w64_id (by omega) (by omega)]
  have e4 : w64 ((8 : Int) * w64 (((byN (uV t) : Nat) : Int) - 3)) = (8 : Int) * (((byN (uV t) : Nat) : Int) - 3) := by
    rw [w64_id (x := ((byN (uV t) : Nat) : Int) - (3 : Int)) (by omega) (by omega), w64_id (by omega) (by omega)]
  rw [e3, e4, if_pos (by omega)]
  have w0 : ∀ N : Nat, N = preX (uV t) → (List.getD (Vector.toList (uW N)) 0 0).toNat = preX (uV t) := by
    intro N hN
    rw [gW_def, uW_get _ _ (by omega), Nat.pow_zero, Nat.div_one, hN]
    omega
  by_cases c3 : byN (uV t) ≤ 3
  · rw [bif_neg (by omega)]
    refine target_Bits_end _ _ (uV t) rfl ht h256 (w0 _ ?_) t rfl
    unfold preX
    rw [if_pos c3, show Int.toNat ((8 : Int) * (3 - ((byN (uV t) : Nat) : Int))) = 8 * (3 - byN (uV t)) by omega]
  · rw [bif_pos (by omega), if_pos (by omega)]
    refine target_Bits_end _ _ (uV t) rfl ht h256 (w0 _ ?_) t rfl
    unfold preX
    rw [if_neg c3, show Int.toNat ((8 : Int) * (((byN (uV t) : Nat) : Int) - 3)) = 8 * (byN (uV t) - 3) by omega]

end
end Go.Proofs.Ytepcjobghbanmaa.M

namespace Go.Proofs.Ytepcjobghbanmaa.M
open Go
noncomputable section
/-- moneyer/target.Of -/
def target_Of (b : UInt32) : Option (Vector UInt64 4 × Int) :=
  if ((-(9223372036854775808 : Int)) ≤ (w64 ((8 : Int) * (w64 ((3 : Int) - (((UInt32.toNat (shr_u32 b (24 : Nat))) : Nat) : Int)))))) ∧ ((w64 ((8 : Int) * (w64 ((3 : Int) - (((UInt32.toNat (shr_u32 b (24 : Nat))) : Nat) : Int))))) < (9223372036854775808 : Int)) then
    bif decide ((3 : Int) < (((UInt32.toNat (shr_u32 b (24 : Nat))) : Nat) : Int)) then (bif decide ((256 : Int) < (w64 ((((lenN (uV (uW (UInt64.toNat (UInt32.toUInt64 (b &&& (8388607 : UInt32))))))) : Nat) : Int) + (w64 ((8 : Int) * (w64 ((((UInt32.toNat (shr_u32 b (24 : Nat))) : Nat) : Int) - (3 : Int)))))))) then (some ((Vector.replicate (4 : Nat) (0 : UInt64)), (5 : Int)))
        else (if ((-(9223372036854775808 : Int)) ≤ (w64 ((8 : Int) * (w64 ((((UInt32.toNat (shr_u32 b (24 : Nat))) : Nat) : Int) - (3 : Int)))))) ∧ ((w64 ((8 : Int) * (w64 ((((UInt32.toNat (shr_u32 b (24 : Nat))) : Nat) : Int) - (3 : Int))))) < (9223372036854775808 : Int)) then
          bif eqb (!(decide ((b &&& (8388608 : UInt32)) = (0 : UInt32)))) false then (bif eqb (bif false then true else (decide ((Vector.toList (uW ((uV (uW (UInt64.toNat (UInt32.toUInt64 (b &&& (8388607 : UInt32)))))) * ((2 : Nat) ^ (Int.toNat (w64 ((8 : Int) * (w64 ((((UInt32.toNat (shr_u32 b (24 : Nat))) : Nat) : Int) - (3 : Int)))))))))) = (Vector.toList (Vector.replicate (4 : Nat) (0 : UInt64)))))) false then (bif bif false then true else (!(decide ((bitsW (uW ((uV (uW (UInt64.toNat (UInt32.toUInt64 (b &&& (8388607 : UInt32)))))) * ((2 : Nat) ^ (Int.toNat (w64 ((8 : Int) * (w64 ((((UInt32.toNat (shr_u32 b (24 : Nat))) : Nat) : Int) - (3 : Int)))))))))) = b))) then (some ((Vector.replicate (4 : Nat) (0 : UInt64)), (5 : Int)))
                else (some ((uW ((uV (uW (UInt64.toNat (UInt32.toUInt64 (b &&& (8388607 : UInt32)))))) * ((2 : Nat) ^ (Int.toNat (w64 ((8 : Int) * (w64 ((((UInt32.toNat (shr_u32 b (24 : Nat))) : Nat) : Int) - (3 : Int))))))))), (0 : Int))))
              else (some ((Vector.replicate (4 : Nat) (0 : UInt64)), (5 : Int))))
            else (some ((Vector.replicate (4 : Nat) (0 : UInt64)), (5 : Int)))
        else none))
      else (bif eqb (!(decide ((b &&& (8388608 : UInt32)) = (0 : UInt32)))) false then (bif eqb (bif false then true else (decide ((Vector.toList (uW ((uV (uW (UInt64.toNat (UInt32.toUInt64 (b &&& (8388607 : UInt32)))))) / ((2 : Nat) ^ (Int.toNat (w64 ((8 : Int) * (w64 ((3 : Int) - (((UInt32.toNat (shr_u32 b (24 : Nat))) : Nat) : Int)))))))))) = (Vector.toList (Vector.replicate (4 : Nat) (0 : UInt64)))))) false then (bif bif false then true else (!(decide ((bitsW (uW ((uV (uW (UInt64.toNat (UInt32.toUInt64 (b &&& (8388607 : UInt32)))))) / ((2 : Nat) ^ (Int.toNat (w64 ((8 : Int) * (w64 ((3 : Int) - (((UInt32.toNat (shr_u32 b (24 : Nat))) : Nat) : Int)))))))))) = b))) then (some ((Vector.replicate (4 : Nat) (0 : UInt64)), (5 : Int)))
            else (some ((uW ((uV (uW (UInt64.toNat (UInt32.toUInt64 (b &&& (8388607 : UInt32)))))) / ((2 : Nat) ^ (Int.toNat (w64 ((8 : Int) * (w64 ((3 : Int) - (((UInt32.toNat (shr_u32 b (24 : Nat))) : Nat) : Int))))))))), (0 : Int))))
          else (some ((Vector.replicate (4 : Nat) (0 : UInt64)), (5 : Int))))
        else (some ((Vector.replicate (4 : Nat) (0 : UInt64)), (5 : Int))))
  else none
theorem target_Of_q (b : UInt32) : target_Of b = (if ((-(9223372036854775808 : Int)) ≤ (w64 ((8 : Int) * (w64 ((3 : Int) - (((UInt32.toNat (shr_u32 b (24 : Nat))) : Nat) : Int)))))) ∧ ((w64 ((8 : Int) * (w64 ((3 : Int) - (((UInt32.toNat (shr_u32 b (24 : Nat))) : Nat) : Int))))) < (9223372036854775808 : Int)) then
    bif decide ((3 : Int) < (((UInt32.toNat (shr_u32 b (24 : Nat))) : Nat) : Int)) then (bif decide ((256 : Int) < (w64 ((((lenN (uV (uW (UInt64.toNat (UInt32.toUInt64 (b &&& (8388607 : UInt32))))))) : Nat) : Int) + (w64 ((8 : Int) * (w64 ((((UInt32.toNat (shr_u32 b (24 : Nat))) : Nat) : Int) - (3 : Int)))))))) then (some ((Vector.replicate (4 : Nat) (0 : UInt64)), (5 : Int)))
        else (if ((-(9223372036854775808 : Int)) ≤ (w64 ((8 : Int) * (w64 ((((UInt32.toNat (shr_u32 b (24 : Nat))) : Nat) : Int) - (3 : Int)))))) ∧ ((w64 ((8 : Int) * (w64 ((((UInt32.toNat (shr_u32 b (24 : Nat))) : Nat) : Int) - (3 : Int))))) < (9223372036854775808 : Int)) then
          bif eqb (!(decide ((b &&& (8388608 : UInt32)) = (0 : UInt32)))) false then (bif eqb (bif false then true else (decide ((Vector.toList (uW ((uV (uW (UInt64.toNat (UInt32.toUInt64 (b &&& (8388607 : UInt32)))))) * ((2 : Nat) ^ (Int.toNat (w64 ((8 : Int) * (w64 ((((UInt32.toNat (shr_u32 b (24 : Nat))) : Nat) : Int) - (3 : Int)))))))))) = (Vector.toList (Vector.replicate (4 : Nat) (0 : UInt64)))))) false then (bif bif false then true else (!(decide ((bitsW (uW ((uV (uW (UInt64.toNat (UInt32.toUInt64 (b &&& (8388607 : UInt32)))))) * ((2 : Nat) ^ (Int.toNat (w64 ((8 : Int) * (w64 ((((UInt32.toNat (shr_u32 b (24 : Nat))) : Nat) : Int) - (3 : Int)))))))))) = b))) then (some ((Vector.replicate (4 : Nat) (0 : UInt64)), (5 : Int)))
                else (some ((uW ((uV (uW (UInt64.toNat (UInt32.toUInt64 (b &&& (8388607 : UInt32)))))) * ((2 : Nat) ^ (Int.toNat (w64 ((8 : Int) * (w64 ((((UInt32.toNat (shr_u32 b (24 : Nat))) : Nat) : Int) - (3 : Int))))))))), (0 : Int))))
              else (some ((Vector.replicate (4 : Nat) (0 : UInt64)), (5 : Int))))
            else (some ((Vector.replicate (4 : Nat) (0 : UInt64)), (5 : Int)))
        else none))
      else (bif eqb (!(decide ((b &&& (8388608 : UInt32)) = (0 : UInt32)))) false then (bif eqb (bif false then true else (decide ((Vector.toList (uW ((uV (uW (UInt64.toNat (UInt32.toUInt64 (b &&& (8388607 : UInt32)))))) / ((2 : Nat) ^ (Int.toNat (w64 ((8 : Int) * (w64 ((3 : Int) - (((UInt32.toNat (shr_u32 b (24 : Nat))) : Nat) : Int)))))))))) = (Vector.toList (Vector.replicate (4 : Nat) (0 : UInt64)))))) false then (bif bif false then true else (!(decide ((bitsW (uW ((uV (uW (UInt64.toNat (UInt32.toUInt64 (b &&& (8388607 : UInt32)))))) / ((2 : Nat) ^ (Int.toNat (w64 ((8 : Int) * (w64 ((3 : Int) - (((UInt32.toNat (shr_u32 b (24 : Nat))) : Nat) : Int)))))))))) = b))) then (some ((Vector.replicate (4 : Nat) (0 : UInt64)), (5 : Int)))
            else (some ((uW ((uV (uW (UInt64.toNat (UInt32.toUInt64 (b &&& (8388607 : UInt32)))))) / ((2 : Nat) ^ (Int.toNat (w64 ((8 : Int) * (w64 ((3 : Int) - (((UInt32.toNat (shr_u32 b (24 : Nat))) : Nat) : Int))))))))), (0 : Int))))
          else (some ((Vector.replicate (4 : Nat) (0 : UInt64)), (5 : Int))))
        else (some ((Vector.replicate (4 : Nat) (0 : UInt64)), (5 : Int))))
  else none) := by kernel_rfl
theorem and_pow (n i : Nat) : n &&& 2 ^ i = if n.testBit i = true then 2 ^ i else 0 := by
  apply Nat.eq_of_testBit_eq
  intro j
  rw [Nat.testBit_and, Nat.testBit_two_pow]
  by_cases h : i = j
  · subst h
    cases hb : n.testBit i <;> simp
  · rw [decide_eq_false h, Bool.and_false]
    split
    · rw [Nat.testBit_two_pow, decide_eq_false h]
    · rw [Nat.zero_testBit]
theorem target_Of_spec (b : UInt32) : target_Of b = some (ofV b, ofE b) := by
  have hbl := b.toNat_lt
  have he : (shr_u32 b 24).toNat = b.toNat / 16777216 := by
    unfold shr_u32
    rw [UInt32.toNat_ofNat', Nat.min_eq_left (by decide)]
    omega
  have hm : (UInt64.toNat (UInt32.toUInt64 (b &&& 8388607))) = b.toNat % 8388608 := by
    rw [UInt32.toNat_toUInt64, UInt32.toNat_and, show (8388607 : UInt32).toNat = 2 ^ 23 - 1 from rfl, Nat.and_two_pow_sub_one_eq_mod]
  have hs : decide ((b &&& 8388608) = 0) = decide (b.toNat / 8388608 % 2 = 0) := by
    rw [decide_eq_decide, ← UInt32.toNat_inj, UInt32.toNat_and, show (8388608 : UInt32).toNat = 2 ^ 23 from rfl, and_pow, Nat.testBit_eq_decide_div_mod_eq, show (0 : UInt32).toNat = 0 from rfl, show 2 ^ 23 = 8388608 from rfl]
    by_cases c : b.toNat / 8388608 % 2 = 1
    · rw [decide_eq_true c, if_pos rfl]; omega
    · rw [decide_eq_false c, if_neg (by decide)]; omega
  have hmv : uV (uW (b.toNat % 8388608)) = b.toNat % 8388608 := by rw [uV_uW, Nat.mod_eq_of_lt (by omega)]
  have fin : ∀ T : Vector UInt64 4, uV T = tgtN b.toNat → tgtN b.toNat < 2 ^ 256 → (bif eqb (!(decide ((b &&& (8388608 : UInt32)) = (0 : UInt32)))) false then (bif eqb (bif false then true else (decide ((Vector.toList T) = (Vector.toList (Vector.replicate 4 (0 : UInt64)))))) false then (bif bif false then true else (!(decide ((bitsW T) = b))) then (some ((Vector.replicate 4 (0 : UInt64)), (5 : Int)))
                else (some (T, (0 : Int))))
              else (some ((Vector.replicate 4 (0 : UInt64)), (5 : Int))))
            else (some ((Vector.replicate 4 (0 : UInt64)), (5 : Int)))) = some (ofV b, ofE b) := by
    intro T hT hlt
    have hz : decide (Vector.toList T = Vector.toList (Vector.replicate 4 (0 : UInt64))) = decide (uV T = 0) := by rw [decide_eq_decide, uV_zero]
    have hq : decide (bitsW T = b) = decide (bitsN (uV T) = b.toNat) := by rw [decide_eq_decide, bitsW_iff]
    rw [← of_end hT hlt hs hz hq]
    cases decide ((b &&& 8388608) = 0) <;> cases decide (Vector.toList T = Vector.toList (Vector.replicate 4 (0 : UInt64))) <;> cases decide (bitsW T = b) <;> rfl
  generalize eE : b.toNat / 16777216 = E at *
  generalize eM : b.toNat % 8388608 = M at *
  have hE : E < 256 := by omega
  have hM : M < 2 ^ 23 := by omega
  have e3 : w64 ((8 : Int) * w64 ((3 : Int) - ((E : Nat) : Int))) = (8 : Int) * (3 - ((E : Nat) : Int)) := by
    rw [w64_id (x := (3 : Int) - ((E : Nat) : Int)) (by omega) (by omega), w64_id (by omega) (by omega)]
  have e4 : w64 ((8 : Int) * w64 (((E : Nat) : Int) - 3)) = (8 : Int) * (((E : Nat) : Int) - 3) := by
    rw [w64_id (x := ((E : Nat) : Int) - (3 : Int)) (by omega) (by omega), w64_id (by omega) (by omega)]
  have tg : tgtN b.toNat = if E ≤ 3 then M / 2 ^ (8 * (3 - E)) else M * 2 ^ (8 * (E - 3)) := by unfold tgtN; rw [eE, eM]
  have hl : lenN M ≤ 23 := lenN_le.2 hM
  rw [target_Of, he, hm, hmv, e3, e4, if_pos (by omega)]
  by_cases c : E ≤ 3
  · rw [bif_neg (by omega), show Int.toNat ((8 : Int) * (3 - ((E : Nat) : Int))) = 8 * (3 - E) by omega]
    rw [if_pos c] at tg
    have hlt : M / 2 ^ (8 * (3 - E)) < 2 ^ 256 := Nat.lt_of_le_of_lt (Nat.div_le_self _ _) (Nat.lt_of_lt_of_le hM (Nat.pow_le_pow_right (by decide) (by decide)))
    exact fin _ (by rw [uV_uW, ← two256, Nat.mod_eq_of_lt hlt, tg]) (by rw [tg]; exact hlt)
  · rw [bif_pos (by omega), show Int.toNat ((8 : Int) * (((E : Nat) : Int) - 3)) = 8 * (E - 3) by omega, w64_id (by omega) (by omega)]
    rw [if_neg c] at tg
    by_cases d : lenN M + 8 * (E - 3) ≤ 256
    · rw [bif_neg (by omega), if_pos (by omega)]
      have hlt : M * 2 ^ (8 * (E - 3)) < 2 ^ 256 := by
        refine Nat.lt_of_lt_of_le (Nat.mul_lt_mul_of_pos_right (lenN_le.1 (Nat.le_refl (lenN M))) (Nat.two_pow_pos _)) ?_
        rw [← Nat.pow_add]
        exact Nat.pow_le_pow_right (by decide) d
      exact fin _ (by rw [uV_uW, ← two256, Nat.mod_eq_of_lt hlt, tg]) (by rw [tg]; exact hlt)
    · rw [bif_pos (by omega)]
      refine congrArg some (of_bad ?_)
      rintro ⟨g1, g2, g3, g4⟩
      rw [tg] at g1 g3
      have hM0 : M ≠ 0 := by
        intro e
        rw [e, Nat.zero_mul] at g3
        exact g3 rfl
      obtain ⟨h0, h1, h2⟩ := lenN_pos hM0
      have := Nat.mul_le_mul_right (2 ^ (8 * (E - 3))) h1
      rw [← Nat.pow_add] at this
      have : 2 ^ 256 ≤ 2 ^ (lenN M - 1 + 8 * (E - 3)) := Nat.pow_le_pow_right (by decide) (by omega)
      omega

end
end Go.Proofs.Ytepcjobghbanmaa.M

namespace Go.Proofs.Ytepcjobghbanmaa.M
open Go
noncomputable section
/-- moneyer/target.product -/
def target_product (a : Vector UInt64 4) (n : UInt64) (by_2 : UInt64) : Vector UInt64 4 × Bool :=
  ((Vector.setIfInBounds (Vector.setIfInBounds (Vector.setIfInBounds (Vector.setIfInBounds (Vector.replicate (4 : Nat) (0 : UInt64)) (0 : Nat) (List.getD (Vector.toList (uW ((uV (Vector.setIfInBounds (Vector.setIfInBounds (Vector.setIfInBounds (Vector.replicate (4 : Nat) (0 : UInt64)) (0 : Nat) (List.getD (Vector.toList (uW ((uV a) * (UInt64.toNat n)))) (0 : Nat) (0 : UInt64))) (1 : Nat) (List.getD (Vector.toList (uW ((uV a) * (UInt64.toNat n)))) (1 : Nat) (0 : UInt64))) (2 : Nat) (divR (Vector.setIfInBounds (Vector.setIfInBounds (Vector.setIfInBounds (Vector.replicate (4 : Nat) (0 : UInt64)) (0 : Nat) (List.getD (Vector.toList (uW ((uV a) * (UInt64.toNat n)))) (2 : Nat) (0 : UInt64))) (1 : Nat) (List.getD (Vector.toList (uW ((uV a) * (UInt64.toNat n)))) (3 : Nat) (0 : UInt64))) (2 : Nat) (mulC a n)) by_2))) / (UInt64.toNat by_2)))) (0 : Nat) (0 : UInt64))) (1 : Nat) (List.getD (Vector.toList (uW ((uV (Vector.setIfInBounds (Vector.setIfInBounds (Vector.setIfInBounds (Vector.replicate (4 : Nat) (0 : UInt64)) (0 : Nat) (List.getD (Vector.toList (uW ((uV a) * (UInt64.toNat n)))) (0 : Nat) (0 : UInt64))) (1 : Nat) (List.getD (Vector.toList (uW ((uV a) * (UInt64.toNat n)))) (1 : Nat) (0 : UInt64))) (2 : Nat) (divR (Vector.setIfInBounds (Vector.setIfInBounds (Vector.setIfInBounds (Vector.replicate (4 : Nat) (0 : UInt64)) (0 : Nat) (List.getD (Vector.toList (uW ((uV a) * (UInt64.toNat n)))) (2 : Nat) (0 : UInt64))) (1 : Nat) (List.getD (Vector.toList (uW ((uV a) * (UInt64.toNat n)))) (3 : Nat) (0 : UInt64))) (2 : Nat) (mulC a n)) by_2))) / (UInt64.toNat by_2)))) (1 : Nat) (0 : UInt64))) (2 : Nat) (List.getD (Vector.toList (uW ((uV (Vector.setIfInBounds (Vector.setIfInBounds (Vector.setIfInBounds (Vector.replicate (4 : Nat) (0 : UInt64)) (0 : Nat) (List.getD (Vector.toList (uW ((uV a) * (UInt64.toNat n)))) (2 : Nat) (0 : UInt64))) (1 : Nat) (List.getD (Vector.toList (uW ((uV a) * (UInt64.toNat n)))) (3 : Nat) (0 : UInt64))) (2 : Nat) (mulC a n))) / (UInt64.toNat by_2)))) (0 : Nat) (0 : UInt64))) (3 : Nat) (List.getD (Vector.toList (uW ((uV (Vector.setIfInBounds (Vector.setIfInBounds (Vector.setIfInBounds (Vector.replicate (4 : Nat) (0 : UInt64)) (0 : Nat) (List.getD (Vector.toList (uW ((uV a) * (UInt64.toNat n)))) (2 : Nat) (0 : UInt64))) (1 : Nat) (List.getD (Vector.toList (uW ((uV a) * (UInt64.toNat n)))) (3 : Nat) (0 : UInt64))) (2 : Nat) (mulC a n))) / (UInt64.toNat by_2)))) (1 : Nat) (0 : UInt64))), (!(decide ((List.getD (Vector.toList (uW ((uV (Vector.setIfInBounds (Vector.setIfInBounds (Vector.setIfInBounds (Vector.replicate (4 : Nat) (0 : UInt64)) (0 : Nat) (List.getD (Vector.toList (uW ((uV a) * (UInt64.toNat n)))) (2 : Nat) (0 : UInt64))) (1 : Nat) (List.getD (Vector.toList (uW ((uV a) * (UInt64.toNat n)))) (3 : Nat) (0 : UInt64))) (2 : Nat) (mulC a n))) / (UInt64.toNat by_2)))) (2 : Nat) (0 : UInt64)) = (0 : UInt64)))))
theorem target_product_q (a : Vector UInt64 4) (n : UInt64) (by_2 : UInt64) : target_product a n by_2 = (((Vector.setIfInBounds (Vector.setIfInBounds (Vector.setIfInBounds (Vector.setIfInBounds (Vector.replicate (4 : Nat) (0 : UInt64)) (0 : Nat) (List.getD (Vector.toList (uW ((uV (Vector.setIfInBounds (Vector.setIfInBounds (Vector.setIfInBounds (Vector.replicate (4 : Nat) (0 : UInt64)) (0 : Nat) (List.getD (Vector.toList (uW ((uV a) * (UInt64.toNat n)))) (0 : Nat) (0 : UInt64))) (1 : Nat) (List.getD (Vector.toList (uW ((uV a) * (UInt64.toNat n)))) (1 : Nat) (0 : UInt64))) (2 : Nat) (divR (Vector.setIfInBounds (Vector.setIfInBounds (Vector.setIfInBounds (Vector.replicate (4 : Nat) (0 : UInt64)) (0 : Nat) (List.getD (Vector.toList (uW ((uV a) * (UInt64.toNat n)))) (2 : Nat) (0 : UInt64))) (1 : Nat) (List.getD (Vector.toList (uW ((uV a) * (UInt64.toNat n)))) (3 : Nat) (0 : UInt64))) (2 : Nat) (mulC a n)) by_2))) / (UInt64.toNat by_2)))) (0 : Nat) (0 : UInt64))) (1 : Nat) (List.getD (Vector.toList (uW ((uV (Vector.setIfInBounds (Vector.setIfInBounds (Vector.setIfInBounds (Vector.replicate (4 : Nat) (0 : UInt64)) (0 : Nat) (List.getD (Vector.toList (uW ((uV a) * (UInt64.toNat n)))) (0 : Nat) (0 : UInt64))) (1 : Nat) (List.getD (Vector.toList (uW ((uV a) * (UInt64.toNat n)))) (1 : Nat) (0 : UInt64))) (2 : Nat) (divR (Vector.setIfInBounds (Vector.setIfInBounds (Vector.setIfInBounds (Vector.replicate (4 : Nat) (0 : UInt64)) (0 : Nat) (List.getD (Vector.toList (uW ((uV a) * (UInt64.toNat n)))) (2 : Nat) (0 : UInt64))) (1 : Nat) (List.getD (Vector.toList (uW ((uV a) * (UInt64.toNat n)))) (3 : Nat) (0 : UInt64))) (2 : Nat) (mulC a n)) by_2))) / (UInt64.toNat by_2)))) (1 : Nat) (0 : UInt64))) (2 : Nat) (List.getD (Vector.toList (uW ((uV (Vector.setIfInBounds (Vector.setIfInBounds (Vector.setIfInBounds (Vector.replicate (4 : Nat) (0 : UInt64)) (0 : Nat) (List.getD (Vector.toList (uW ((uV a) * (UInt64.toNat n)))) (2 : Nat) (0 : UInt64))) (1 : Nat) (List.getD (Vector.toList (uW ((uV a) * (UInt64.toNat n)))) (3 : Nat) (0 : UInt64))) (2 : Nat) (mulC a n))) / (UInt64.toNat by_2)))) (0 : Nat) (0 : UInt64))) (3 : Nat) (List.getD (Vector.toList (uW ((uV (Vector.setIfInBounds (Vector.setIfInBounds (Vector.setIfInBounds (Vector.replicate (4 : Nat) (0 : UInt64)) (0 : Nat) (List.getD (Vector.toList (uW ((uV a) * (UInt64.toNat n)))) (2 : Nat) (0 : UInt64))) (1 : Nat) (List.getD (Vector.toList (uW ((uV a) * (UInt64.toNat n)))) (3 : Nat) (0 : UInt64))) (2 : Nat) (mulC a n))) / (UInt64.toNat by_2)))) (1 : Nat) (0 : UInt64))), (!(decide ((List.getD (Vector.toList (uW ((uV (Vector.setIfInBounds (Vector.setIfInBounds (Vector.setIfInBounds (Vector.replicate (4 : Nat) (0 : UInt64)) (0 : Nat) (List.getD (Vector.toList (uW ((uV a) * (UInt64.toNat n)))) (2 : Nat) (0 : UInt64))) (1 : Nat) (List.getD (Vector.toList (uW ((uV a) * (UInt64.toNat n)))) (3 : Nat) (0 : UInt64))) (2 : Nat) (mulC a n))) / (UInt64.toNat by_2)))) (2 : Nat) (0 : UInt64)) = (0 : UInt64)))))) := by kernel_rfl
theorem uV_three (x0 x1 x2 : UInt64) : uV (Vector.setIfInBounds (Vector.setIfInBounds (Vector.setIfInBounds (Vector.replicate 4 0) 0 x0) 1 x1) 2 x2) = x0.toNat + 18446744073709551616 * (x1.toNat + 18446744073709551616 * x2.toNat) := by
  unfold uV
  simp [gW_set, gW_rep]
theorem uV_four (x0 x1 x2 x3 : UInt64) : uV (Vector.setIfInBounds (Vector.setIfInBounds (Vector.setIfInBounds (Vector.setIfInBounds (Vector.replicate 4 0) 0 x0) 1 x1) 2 x2) 3 x3) = x0.toNat + 18446744073709551616 * (x1.toNat + 18446744073709551616 * (x2.toNat + 18446744073709551616 * x3.toNat)) := by
  unfold uV
  simp [gW_set, gW_rep]
theorem pr_two {Y B : Nat} (hY : 0 < Y) (A c : Nat) : (A * B + c) / Y = A / Y * B + (A % Y * B + c) / Y := by
  have h := Nat.div_add_mod A Y
  have e : A * B + c = Y * (A / Y * B) + (A % Y * B + c) := by
    have : A * B = (Y * (A / Y) + A % Y) * B := by rw [h]
    rw [this]
    grind
  rw [e, Nat.mul_add_div hY]
theorem target_product_spec (a : Vector UInt64 4) (n m : UInt64) : target_product a n m = (prodV a n m, prodB a n m) := by
  rw [target_product, prodV_eq, prodB_eq]
  have hA := uV_lt a
  have hn := n.toNat_lt
  have hP : uV a * n.toNat < 115792089237316195423570985008687907853269984665640564039457584007913129639936 * 18446744073709551616 := Nat.mul_lt_mul'' hA hn
  have hmul : (mulC a n).toNat = uV a * n.toNat / 115792089237316195423570985008687907853269984665640564039457584007913129639936 := by
    rw [mulC_eq, UInt64.toNat_ofNat']
    omega
  generalize mulC a n = mc at *
  generalize uV a * n.toNat = P at *
  have w : ∀ N j, j < 4 → (List.getD (Vector.toList (uW N)) j 0).toNat = N / 18446744073709551616 ^ j % 18446744073709551616 := fun N j hj => uW_get N j hj
  have hhi : uV (Vector.setIfInBounds (Vector.setIfInBounds (Vector.setIfInBounds (Vector.replicate 4 (0 : UInt64)) 0 (List.getD (Vector.toList (uW P)) 2 0)) 1 (List.getD (Vector.toList (uW P)) 3 0)) 2 mc) = P / 340282366920938463463374607431768211456 := by
    rw [uV_three, w _ _ (by omega), w _ _ (by omega), hmul, show 18446744073709551616 ^ 2 = 340282366920938463463374607431768211456 from rfl, show 18446744073709551616 ^ 3 = 6277101735386680763835789423207666416102355444464034512896 from rfl]
    omega
  have hld : ∀ x : UInt64, uV (Vector.setIfInBounds (Vector.setIfInBounds (Vector.setIfInBounds (Vector.replicate 4 (0 : UInt64)) 0 (List.getD (Vector.toList (uW P)) 0 0)) 1 (List.getD (Vector.toList (uW P)) 1 0)) 2 x) = x.toNat * 340282366920938463463374607431768211456 + P % 340282366920938463463374607431768211456 := by
    intro x
    rw [uV_three, w _ _ (by omega), w _ _ (by omega), Nat.pow_zero, Nat.pow_one]
    omega
  generalize eV : Vector.setIfInBounds (Vector.setIfInBounds (Vector.setIfInBounds (Vector.replicate 4 (0 : UInt64)) 0 (List.getD (Vector.toList (uW P)) 2 0)) 1 (List.getD (Vector.toList (uW P)) 3 0)) 2 mc = V at *
  rw [hld, hhi]
  generalize eq : P / 340282366920938463463374607431768211456 / m.toNat = q
  have hq : q < 6277101735386680763835789423207666416102355444464034512896 := by
    rw [← eq]
    exact Nat.lt_of_le_of_lt (Nat.div_le_self _ _) (by omega)
  generalize er : ((divR V m).toNat * 340282366920938463463374607431768211456 + P % 340282366920938463463374607431768211456) / m.toNat = r
  have main : P / m.toNat = q * 340282366920938463463374607431768211456 + r ∧ r < 340282366920938463463374607431768211456 := by
    by_cases c : m.toNat = 0
    · rw [c, Nat.div_zero] at eq er
      rw [← eq, ← er, c, Nat.div_zero]
      decide
    · have hm : 0 < m.toNat := by omega
      have hml := m.toNat_lt
      have hl := Nat.mod_lt (P / 340282366920938463463374607431768211456) hm
      have hd : (divR V m).toNat = P / 340282366920938463463374607431768211456 % m.toNat := by
        rw [divR_eq, if_neg c, UInt64.toNat_ofNat', hhi, Nat.mod_eq_of_lt (by omega)]
      rw [hd] at er
      constructor
      · have := pr_two (B := 340282366920938463463374607431768211456) hm (P / 340282366920938463463374607431768211456) (P % 340282366920938463463374607431768211456)
        rw [Nat.div_add_mod', eq, er] at this
        exact this
      · rw [← er, Nat.div_lt_iff_lt_mul hm]
        have : (P / 340282366920938463463374607431768211456 % m.toNat + 1) * 340282366920938463463374607431768211456 ≤ m.toNat * 340282366920938463463374607431768211456 := Nat.mul_le_mul_right _ hl
        rw [Nat.mul_comm _ m.toNat]
        omega
  obtain ⟨m1, m2⟩ := main
  rw [m1]
  refine Prod.ext ?_ ?_
  · apply uV_inj
    show uV (Vector.setIfInBounds _ _ _) = _
    rw [uV_four, w _ _ (by omega), w _ _ (by omega), w _ _ (by omega), w _ _ (by omega), uV_uW, Nat.pow_zero, Nat.pow_one]
    omega
  · show (!decide (List.getD (Vector.toList (uW q)) 2 0 = 0)) = !decide _
    congr 1
    rw [decide_eq_decide, ← UInt64.toNat_inj, w _ _ (by omega), show 18446744073709551616 ^ 2 = 340282366920938463463374607431768211456 from rfl, show (0 : UInt64).toNat = 0 from rfl]
    omega

end
end Go.Proofs.Ytepcjobghbanmaa.M

namespace Go.Proofs.Ytepcjobghbanmaa.M
open Go
noncomputable section
/-- moneyer/target.Next -/
def target_Next (b : UInt32) (span : UInt32) : UInt32 × Int :=
  bif !(decide ((ofE b) = (0 : Int))) then (((0 : UInt32), (ofE b)))
    else (bif eqb (prodB (ofV b) (bif true then (if ((1920 : UInt64) < (bif false then (if ((120 : UInt64) < (UInt32.toUInt64 span)) then (120 : UInt64) else (UInt32.toUInt64 span)) else (if ((UInt32.toUInt64 span) < (120 : UInt64)) then (120 : UInt64) else (UInt32.toUInt64 span)))) then (1920 : UInt64) else (bif false then (if ((120 : UInt64) < (UInt32.toUInt64 span)) then (120 : UInt64) else (UInt32.toUInt64 span)) else (if ((UInt32.toUInt64 span) < (120 : UInt64)) then (120 : UInt64) else (UInt32.toUInt64 span)))) else (if ((bif false then (if ((120 : UInt64) < (UInt32.toUInt64 span)) then (120 : UInt64) else (UInt32.toUInt64 span)) else (if ((UInt32.toUInt64 span) < (120 : UInt64)) then (120 : UInt64) else (UInt32.toUInt64 span))) < (1920 : UInt64)) then (1920 : UInt64) else (bif false then (if ((120 : UInt64) < (UInt32.toUInt64 span)) then (120 : UInt64) else (UInt32.toUInt64 span)) else (if ((UInt32.toUInt64 span) < (120 : UInt64)) then (120 : UInt64) else (UInt32.toUInt64 span))))) (480 : UInt64)) false then (bif bif false then true else (subB (ofV (545259519 : UInt32)) (prodV (ofV b) (bif true then (if ((1920 : UInt64) < (bif false then (if ((120 : UInt64) < (UInt32.toUInt64 span)) then (120 : UInt64) else (UInt32.toUInt64 span)) else (if ((UInt32.toUInt64 span) < (120 : UInt64)) then (120 : UInt64) else (UInt32.toUInt64 span)))) then (1920 : UInt64) else (bif false then (if ((120 : UInt64) < (UInt32.toUInt64 span)) then (120 : UInt64) else (UInt32.toUInt64 span)) else (if ((UInt32.toUInt64 span) < (120 : UInt64)) then (120 : UInt64) else (UInt32.toUInt64 span)))) else (if ((bif false then (if ((120 : UInt64) < (UInt32.toUInt64 span)) then (120 : UInt64) else (UInt32.toUInt64 span)) else (if ((UInt32.toUInt64 span) < (120 : UInt64)) then (120 : UInt64) else (UInt32.toUInt64 span))) < (1920 : UInt64)) then (1920 : UInt64) else (bif false then (if ((120 : UInt64) < (UInt32.toUInt64 span)) then (120 : UInt64) else (UInt32.toUInt64 span)) else (if ((UInt32.toUInt64 span) < (120 : UInt64)) then (120 : UInt64) else (UInt32.toUInt64 span))))) (480 : UInt64))) then (((bitsW (ofV (545259519 : UInt32))), (0 : Int)))
        else (bif decide ((Vector.toList (prodV (ofV b) (bif true then (if ((1920 : UInt64) < (bif false then (if ((120 : UInt64) < (UInt32.toUInt64 span)) then (120 : UInt64) else (UInt32.toUInt64 span)) else (if ((UInt32.toUInt64 span) < (120 : UInt64)) then (120 : UInt64) else (UInt32.toUInt64 span)))) then (1920 : UInt64) else (bif false then (if ((120 : UInt64) < (UInt32.toUInt64 span)) then (120 : UInt64) else (UInt32.toUInt64 span)) else (if ((UInt32.toUInt64 span) < (120 : UInt64)) then (120 : UInt64) else (UInt32.toUInt64 span)))) else (if ((bif false then (if ((120 : UInt64) < (UInt32.toUInt64 span)) then (120 : UInt64) else (UInt32.toUInt64 span)) else (if ((UInt32.toUInt64 span) < (120 : UInt64)) then (120 : UInt64) else (UInt32.toUInt64 span))) < (1920 : UInt64)) then (1920 : UInt64) else (bif false then (if ((120 : UInt64) < (UInt32.toUInt64 span)) then (120 : UInt64) else (UInt32.toUInt64 span)) else (if ((UInt32.toUInt64 span) < (120 : UInt64)) then (120 : UInt64) else (UInt32.toUInt64 span))))) (480 : UInt64))) = (Vector.toList (Vector.replicate (4 : Nat) (0 : UInt64)))) then (((bitsW (uW (1 : Nat))), (0 : Int)))
          else (((bitsW (prodV (ofV b) (bif true then (if ((1920 : UInt64) < (bif false then (if ((120 : UInt64) < (UInt32.toUInt64 span)) then (120 : UInt64) else (UInt32.toUInt64 span)) else (if ((UInt32.toUInt64 span) < (120 : UInt64)) then (120 : UInt64) else (UInt32.toUInt64 span)))) then (1920 : UInt64) else (bif false then (if ((120 : UInt64) < (UInt32.toUInt64 span)) then (120 : UInt64) else (UInt32.toUInt64 span)) else (if ((UInt32.toUInt64 span) < (120 : UInt64)) then (120 : UInt64) else (UInt32.toUInt64 span)))) else (if ((bif false then (if ((120 : UInt64) < (UInt32.toUInt64 span)) then (120 : UInt64) else (UInt32.toUInt64 span)) else (if ((UInt32.toUInt64 span) < (120 : UInt64)) then (120 : UInt64) else (UInt32.toUInt64 span))) < (1920 : UInt64)) then (1920 : UInt64) else (bif false then (if ((120 : UInt64) < (UInt32.toUInt64 span)) then (120 : UInt64) else (UInt32.toUInt64 span)) else (if ((UInt32.toUInt64 span) < (120 : UInt64)) then (120 : UInt64) else (UInt32.toUInt64 span))))) (480 : UInt64))), (0 : Int)))))
      else (((bitsW (ofV (545259519 : UInt32))), (0 : Int))))
theorem target_Next_q (b : UInt32) (span : UInt32) : target_Next b span = (bif !(decide ((ofE b) = (0 : Int))) then (((0 : UInt32), (ofE b)))
    else (bif eqb (prodB (ofV b) (bif true then (if ((1920 : UInt64) < (bif false then (if ((120 : UInt64) < (UInt32.toUInt64 span)) then (120 : UInt64) else (UInt32.toUInt64 span)) else (if ((UInt32.toUInt64 span) < (120 : UInt64)) then (120 : UInt64) else (UInt32.toUInt64 span)))) then (1920 : UInt64) else (bif false then (if ((120 : UInt64) < (UInt32.toUInt64 span)) then (120 : UInt64) else (UInt32.toUInt64 span)) else (if ((UInt32.toUInt64 span) < (120 : UInt64)) then (120 : UInt64) else (UInt32.toUInt64 span)))) else (if ((bif false then (if ((120 : UInt64) < (UInt32.toUInt64 span)) then (120 : UInt64) else (UInt32.toUInt64 span)) else (if ((UInt32.toUInt64 span) < (120 : UInt64)) then (120 : UInt64) else (UInt32.toUInt64 span))) < (1920 : UInt64)) then (1920 : UInt64) else (bif false then (if ((120 : UInt64) < (UInt32.toUInt64 span)) then (120 : UInt64) else (UInt32.toUInt64 span)) else (if ((UInt32.toUInt64 span) < (120 : UInt64)) then (120 : UInt64) else (UInt32.toUInt64 span))))) (480 : UInt64)) false then (bif bif false then true else (subB (ofV (545259519 : UInt32)) (prodV (ofV b) (bif true then (if ((1920 : UInt64) < (bif false then (if ((120 : UInt64) < (UInt32.toUInt64 span)) then (120 : UInt64) else (UInt32.toUInt64 span)) else (if ((UInt32.toUInt64 span) < (120 : UInt64)) then (120 : UInt64) else (UInt32.toUInt64 span)))) then (1920 : UInt64) else (bif false then (if ((120 : UInt64) < (UInt32.toUInt64 span)) then (120 : UInt64) else (UInt32.toUInt64 span)) else (if ((UInt32.toUInt64 span) < (120 : UInt64)) then (120 : UInt64) else (UInt32.toUInt64 span)))) else (if ((bif false then (if ((120 : UInt64) < (UInt32.toUInt64 span)) then (120 : UInt64) else (UInt32.toUInt64 span)) else (if ((UInt32.toUInt64 span) < (120 : UInt64)) then (120 : UInt64) else (UInt32.toUInt64 span))) < (1920 : UInt64)) then (1920 : UInt64) else (bif false then (if ((120 : UInt64) < (UInt32.toUInt64 span)) then (120 : UInt64) else (UInt32.toUInt64 span)) else (if ((UInt32.toUInt64 span) < (120 : UInt64)) then (120 : UInt64) else (UInt32.toUInt64 span))))) (480 : UInt64))) then (((bitsW (ofV (545259519 : UInt32))), (0 : Int)))
        else (bif decide ((Vector.toList (prodV (ofV b) (bif true then (if ((1920 : UInt64) < (bif false then (if ((120 : UInt64) < (UInt32.toUInt64 span)) then (120 : UInt64) else (UInt32.toUInt64 span)) else (if ((UInt32.toUInt64 span) < (120 : UInt64)) then (120 : UInt64) else (UInt32.toUInt64 span)))) then (1920 : UInt64) else (bif false then (if ((120 : UInt64) < (UInt32.toUInt64 span)) then (120 : UInt64) else (UInt32.toUInt64 span)) else (if ((UInt32.toUInt64 span) < (120 : UInt64)) then (120 : UInt64) else (UInt32.toUInt64 span)))) else (if ((bif false then (if ((120 : UInt64) < (UInt32.toUInt64 span)) then (120 : UInt64) else (UInt32.toUInt64 span)) else (if ((UInt32.toUInt64 span) < (120 : UInt64)) then (120 : UInt64) else (UInt32.toUInt64 span))) < (1920 : UInt64)) then (1920 : UInt64) else (bif false then (if ((120 : UInt64) < (UInt32.toUInt64 span)) then (120 : UInt64) else (UInt32.toUInt64 span)) else (if ((UInt32.toUInt64 span) < (120 : UInt64)) then (120 : UInt64) else (UInt32.toUInt64 span))))) (480 : UInt64))) = (Vector.toList (Vector.replicate (4 : Nat) (0 : UInt64)))) then (((bitsW (uW (1 : Nat))), (0 : Int)))
          else (((bitsW (prodV (ofV b) (bif true then (if ((1920 : UInt64) < (bif false then (if ((120 : UInt64) < (UInt32.toUInt64 span)) then (120 : UInt64) else (UInt32.toUInt64 span)) else (if ((UInt32.toUInt64 span) < (120 : UInt64)) then (120 : UInt64) else (UInt32.toUInt64 span)))) then (1920 : UInt64) else (bif false then (if ((120 : UInt64) < (UInt32.toUInt64 span)) then (120 : UInt64) else (UInt32.toUInt64 span)) else (if ((UInt32.toUInt64 span) < (120 : UInt64)) then (120 : UInt64) else (UInt32.toUInt64 span)))) else (if ((bif false then (if ((120 : UInt64) < (UInt32.toUInt64 span)) then (120 : UInt64) else (UInt32.toUInt64 span)) else (if ((UInt32.toUInt64 span) < (120 : UInt64)) then (120 : UInt64) else (UInt32.toUInt64 span))) < (1920 : UInt64)) then (1920 : UInt64) else (bif false then (if ((120 : UInt64) < (UInt32.toUInt64 span)) then (120 : UInt64) else (UInt32.toUInt64 span)) else (if ((UInt32.toUInt64 span) < (120 : UInt64)) then (120 : UInt64) else (UInt32.toUInt64 span))))) (480 : UInt64))), (0 : Int)))))
      else (((bitsW (ofV (545259519 : UInt32))), (0 : Int))))) := by kernel_rfl
theorem target_Next_clamp (span : UInt32) : (if (1920 : UInt64) < (if UInt32.toUInt64 span < 120 then 120 else UInt32.toUInt64 span) then (1920 : UInt64) else (if UInt32.toUInt64 span < 120 then 120 else UInt32.toUInt64 span)).toNat = clampN span.toNat := by
  have hs : (UInt32.toUInt64 span).toNat = span.toNat := UInt32.toNat_toUInt64 span
  unfold clampN
  by_cases c1 : UInt32.toUInt64 span < 120
  · rw [if_pos c1, if_neg (by decide)]
    rw [UInt64.lt_iff_toNat_lt, hs, show (120 : UInt64).toNat = 120 from rfl] at c1
    rw [if_pos c1]; rfl
  · rw [if_neg c1]
    rw [UInt64.lt_iff_toNat_lt, hs, show (120 : UInt64).toNat = 120 from rfl] at c1
    rw [if_neg c1]
    by_cases c2 : 1920 < UInt32.toUInt64 span
    · rw [if_pos c2]
      rw [UInt64.lt_iff_toNat_lt, hs, show (1920 : UInt64).toNat = 1920 from rfl] at c2
      rw [if_pos c2]; rfl
    · rw [if_neg c2]
      rw [UInt64.lt_iff_toNat_lt, hs, show (1920 : UInt64).toNat = 1920 from rfl] at c2
      rw [if_neg c2, hs]
theorem target_Next_end (b span : UInt32) (h : okP b.toNat) (m : UInt64) (hm : m.toNat = clampN span.toNat) :
    (bif eqb (prodB (ofV b) m 480) false then (bif subB (ofV 545259519) (prodV (ofV b) m 480) then (bitsW (ofV 545259519), (0 : Int))
      else (bif decide (Vector.toList (prodV (ofV b) m 480) = Vector.toList (Vector.replicate 4 (0 : UInt64))) then (bitsW (uW 1), 0) else (bitsW (prodV (ofV b) m 480), 0)))
      else (bitsW (ofV 545259519), 0)) = (nextW b span, ofE b) := by
  have hT := ofV_val h
  have hlim : limT < 115792089237316195423570985008687907853269984665640564039457584007913129639936 := by decide
  have fin1 : limT < tgtN b.toNat * clampN span.toNat / 480 → (bitsW (ofV 545259519), (0 : Int)) = (nextW b span, ofE b) := by
    intro g
    refine bits_end h ?_
    rw [lim_val]
    unfold nextT
    rw [if_pos g]
  rw [prodB_eq, hT, hm, show (480 : UInt64).toNat = 480 from rfl]
  by_cases c1 : tgtN b.toNat * clampN span.toNat / 480 < 115792089237316195423570985008687907853269984665640564039457584007913129639936
  · have vP : uV (prodV (ofV b) m 480) = tgtN b.toNat * clampN span.toNat / 480 := by
      rw [prodV_eq, hT, hm, show (480 : UInt64).toNat = 480 from rfl, uV_uW, Nat.mod_eq_of_lt c1]
    rw [decide_eq_true c1, subB_eq, lim_val, vP]
    simp only [eqb, Bool.not_true, Bool.not_false, cond_true]
    by_cases c3 : limT < tgtN b.toNat * clampN span.toNat / 480
    · rw [bif_pos c3]
      exact fin1 c3
    · rw [bif_neg c3]
      have hz : decide (Vector.toList (prodV (ofV b) m 480) = Vector.toList (Vector.replicate 4 (0 : UInt64))) = decide (tgtN b.toNat * clampN span.toNat / 480 = 0) := by
        rw [decide_eq_decide, uV_zero, vP]
      rw [hz]
      by_cases c4 : tgtN b.toNat * clampN span.toNat / 480 = 0
      · rw [bif_pos c4]
        refine bits_end h ?_
        rw [uV_uW1]
        unfold nextT
        rw [if_neg c3, if_pos c4]
      · rw [bif_neg c4]
        refine bits_end h ?_
        rw [vP]
        unfold nextT
        rw [if_neg c3, if_neg c4]
  · rw [decide_eq_false c1]
    exact fin1 (by omega)
theorem target_Next_spec (b span : UInt32) : target_Next b span = (nextW b span, ofE b) := by
  rw [target_Next]
  by_cases h : okP b.toNat
  · have e0 := (ofE_iff b).2 h
    rw [decide_eq_true e0]
    simp only [Bool.not_true, cond_false, cond_true]
    exact target_Next_end b span h _ (target_Next_clamp span)
  · have e0 : ofE b ≠ 0 := fun e => h ((ofE_iff b).1 e)
    rw [decide_eq_false e0, Bool.not_false, cond_true, nextW_eq, if_neg h]

end
end Go.Proofs.Ytepcjobghbanmaa.M

namespace Go.Proofs.Ytepcjobghbanmaa.M
open Go
noncomputable section
/-- moneyer/target.Meets -/
def target_Meets (h_0 : Vector UInt8 32) (b : UInt32) : Bool :=
  bif eqb (decide ((ofE b) = (0 : Int))) true then ((bif true then (!(subB (ofV b) (hashU h_0))) else false))
    else (false)
theorem target_Meets_q (h_0 : Vector UInt8 32) (b : UInt32) : target_Meets h_0 b = (bif eqb (decide ((ofE b) = (0 : Int))) true then ((bif true then (!(subB (ofV b) (hashU h_0))) else false))
    else (false)) := by kernel_rfl
theorem target_Meets_spec (h : Vector UInt8 32) (b : UInt32) : target_Meets h b = meetsS h b := by
  rw [target_Meets, meetsS_eq]
  cases decide (ofE b = 0) <;> rfl

end
end Go.Proofs.Ytepcjobghbanmaa.M

namespace Go.Proofs.Ytepcjobghbanmaa.M
open Go
noncomputable section
/-- moneyer/target.Subsidy -/
def target_Subsidy (height : UInt32) : UInt64 :=
  bif eqb (decide ((0 : UInt32) < height)) true then (bif bif true then (decide ((height / (16 : UInt32)) < (64 : UInt32))) else false then ((shr_u64 (5000000000 : UInt64) (UInt32.toNat (height / (16 : UInt32)))))
      else ((0 : UInt64)))
    else ((0 : UInt64))
theorem target_Subsidy_q (height : UInt32) : target_Subsidy height = (bif eqb (decide ((0 : UInt32) < height)) true then (bif bif true then (decide ((height / (16 : UInt32)) < (64 : UInt32))) else false then ((shr_u64 (5000000000 : UInt64) (UInt32.toNat (height / (16 : UInt32)))))
      else ((0 : UInt64)))
    else ((0 : UInt64))) := by kernel_rfl
theorem target_Subsidy_spec (h : UInt32) : target_Subsidy h = subsS h := by
  rw [target_Subsidy, subsS_eq]
  have hl := h.toNat_lt
  have e1 : (h / 16).toNat = h.toNat / 16 := by rw [UInt32.toNat_div]; rfl
  have c1 : ((0 : UInt32) < h) ↔ h.toNat ≠ 0 := by
    rw [UInt32.lt_iff_toNat_lt, show (0 : UInt32).toNat = 0 from rfl]; omega
  have c2 : (h / 16 < 64) ↔ h.toNat / 16 < 64 := by
    rw [UInt32.lt_iff_toNat_lt, e1]; rfl
  by_cases d1 : h.toNat = 0
  · rw [if_pos d1, decide_eq_false (by rw [c1]; omega)]
    rfl
  · rw [if_neg d1, decide_eq_true (c1.2 d1)]
    by_cases d2 : h.toNat / 16 < 64
    · rw [if_pos d2, decide_eq_true (c2.2 d2)]
      simp only [eqb, cond_true]
      rw [e1]
      unfold shr_u64
      rw [Nat.min_eq_left (by omega)]
      rfl
    · rw [if_neg d2, decide_eq_false (fun e => d2 (c2.1 e))]
      rfl

end
end Go.Proofs.Ytepcjobghbanmaa.M

namespace Go.Proofs.Ytepcjobghbanmaa.M
open Go
noncomputable section
/-- moneyer/target.Work -/
def target_Work (b : UInt32) : Vector UInt64 4 × Int :=
  bif !(decide ((ofE b) = (0 : Int))) then (((Vector.replicate (4 : Nat) (0 : UInt64)), (ofE b)))
    else (bif addB (ofV b) (uW (1 : Nat)) then (((uW (1 : Nat)), (0 : Int)))
      else (((addV (ovQ (subV (Vector.replicate (4 : Nat) (0 : UInt64)) (addV (ofV b) (uW (1 : Nat)))) (addV (ofV b) (uW (1 : Nat)))) (uW (1 : Nat))), (0 : Int))))
theorem target_Work_q (b : UInt32) : target_Work b = (bif !(decide ((ofE b) = (0 : Int))) then (((Vector.replicate (4 : Nat) (0 : UInt64)), (ofE b)))
    else (bif addB (ofV b) (uW (1 : Nat)) then (((uW (1 : Nat)), (0 : Int)))
      else (((addV (ovQ (subV (Vector.replicate (4 : Nat) (0 : UInt64)) (addV (ofV b) (uW (1 : Nat)))) (addV (ofV b) (uW (1 : Nat)))) (uW (1 : Nat))), (0 : Int))))) := by kernel_rfl
theorem target_Work_spec (b : UInt32) : target_Work b = (workV b, ofE b) := by
  rw [target_Work, workV_eq]
  by_cases c : okP b.toNat
  · have e0 := (ofE_iff b).2 c
    have hT := ofV_val c
    have hlt : tgtN b.toNat < 115792089237316195423570985008687907853269984665640564039457584007913129639936 := by rw [← two256]; exact c.1
    have hne := c.2.2.1
    rw [e0, decide_eq_true rfl, Bool.not_true, cond_false, if_pos c, addB_eq, hT, uV_uW1]
    generalize tgtN b.toNat = T at *
    by_cases d : T + 1 < 115792089237316195423570985008687907853269984665640564039457584007913129639936
    · rw [decide_eq_true d, Bool.not_true, cond_false]
      refine Prod.ext ?_ rfl
      show addV _ _ = _
      have hm : uV (addV (ofV b) (uW 1)) = T + 1 := by rw [addV_val, hT, uV_uW1, Nat.mod_eq_of_lt d]
      rw [addV_eq, ovQ_eq, uV_uW, hm, subV_val, hm, uV_rep, uV_uW1]
      rw [work_one (d := T + 1) (by omega) (Nat.le_of_lt d)]
      have e1 : (0 + 115792089237316195423570985008687907853269984665640564039457584007913129639936 - (T + 1)) % 115792089237316195423570985008687907853269984665640564039457584007913129639936 = 115792089237316195423570985008687907853269984665640564039457584007913129639936 - (T + 1) := by omega
      rw [e1]
      have e2 : (115792089237316195423570985008687907853269984665640564039457584007913129639936 - (T + 1)) / (T + 1) ≤ 115792089237316195423570985008687907853269984665640564039457584007913129639936 - (T + 1) := Nat.div_le_self _ _
      rw [Nat.mod_eq_of_lt (a := (115792089237316195423570985008687907853269984665640564039457584007913129639936 - (T + 1)) / (T + 1)) (by omega)]
    · rw [decide_eq_false d, Bool.not_false, cond_true, show T + 1 = 115792089237316195423570985008687907853269984665640564039457584007913129639936 by omega, Nat.div_self (by decide)]
  · have e0 : ofE b ≠ 0 := fun e => c ((ofE_iff b).1 e)
    rw [decide_eq_false e0, Bool.not_false, cond_true, if_neg c]

end
end Go.Proofs.Ytepcjobghbanmaa.M

namespace Go.Proofs.Ytepcjobghbanmaa.M
open Go
noncomputable section
set_option maxRecDepth 100000
set_option maxHeartbeats 0
noncomputable def target_Bits_T : Tbl := [(36, [], big_Len_c), (24, [], big_Left_c), (26, [], big_Right_c)]
noncomputable def target_Bits_C : CfgW := mkC Try.prog noG target_Bits_T 37 0 false
def target_Bits_lv : Nat → List Nat := fun i => []
noncomputable abbrev target_Bits_b : Code := Try.f44.body.getD .skip
noncomputable abbrev target_Bits_r : List ResultVar := Try.f44.results.toList
def target_Bits_hs : List Nat := []

def target_Bits_enc (r : UInt32) : CallOut := ⟨.pv (.sc .u32 r), [], true, []⟩
theorem target_Bits_e (t : Vector UInt64 4) (Q : CallOut → Prop) : evalFnP target_Bits_C target_Bits_lv target_Bits_r target_Bits_hs target_Bits_b [.pv (.arr .u64 4 t)] [] Q =
    (((8 : Int) ≠ (0 : Int)) ∧ (condP (decide ((w64 (Int.tdiv (w64 ((((lenN (uV t)) : Nat) : Int) + (7 : Int))) (8 : Int))) = (0 : Int))) (Q (target_Bits_enc (0 : UInt32))) ((((-(9223372036854775808 : Int)) ≤ (w64 ((8 : Int) * (w64 ((3 : Int) - (w64 (Int.tdiv (w64 ((((lenN (uV t)) : Nat) : Int) + (7 : Int))) (8 : Int)))))))) ∧ ((w64 ((8 : Int) * (w64 ((3 : Int) - (w64 (Int.tdiv (w64 ((((lenN (uV t)) : Nat) : Int) + (7 : Int))) (8 : Int))))))) < (9223372036854775808 : Int))) ∧ ((((0 : Int) ≤ (0 : Int)) ∧ ((0 : Int) < (4 : Int))) ∧ (condP (decide ((3 : Int) < (w64 (Int.tdiv (w64 ((((lenN (uV t)) : Nat) : Int) + (7 : Int))) (8 : Int))))) ((((-(9223372036854775808 : Int)) ≤ (w64 ((8 : Int) * (w64 ((w64 (Int.tdiv (w64 ((((lenN (uV t)) : Nat) : Int) + (7 : Int))) (8 : Int))) - (3 : Int)))))) ∧ ((w64 ((8 : Int) * (w64 ((w64 (Int.tdiv (w64 ((((lenN (uV t)) : Nat) : Int) + (7 : Int))) (8 : Int))) - (3 : Int))))) < (9223372036854775808 : Int))) ∧ ((((0 : Int) ≤ (0 : Int)) ∧ ((0 : Int) < (4 : Int))) ∧ (condP (decide ((8388607 : UInt64) < (List.getD (Vector.toList (uW ((uV t) / ((2 : Nat) ^ (Int.toNat (w64 ((8 : Int) * (w64 ((w64 (Int.tdiv (w64 ((((lenN (uV t)) : Nat) : Int) + (7 : Int))) (8 : Int))) - (3 : Int)))))))))) (0 : Nat) (0 : UInt64)))) (Q (target_Bits_enc ((shl_u32 (UInt32.ofInt (w64 ((w64 (Int.tdiv (w64 ((((lenN (uV t)) : Nat) : Int) + (7 : Int))) (8 : Int))) + (1 : Int)))) (24 : Nat)) ||| (UInt64.toUInt32 (shr_u64 (List.getD (Vector.toList (uW ((uV t) / ((2 : Nat) ^ (Int.toNat (w64 ((8 : Int) * (w64 ((w64 (Int.tdiv (w64 ((((lenN (uV t)) : Nat) : Int) + (7 : Int))) (8 : Int))) - (3 : Int)))))))))) (0 : Nat) (0 : UInt64)) (8 : Nat)))))) (Q (target_Bits_enc ((shl_u32 (UInt32.ofInt (w64 (Int.tdiv (w64 ((((lenN (uV t)) : Nat) : Int) + (7 : Int))) (8 : Int)))) (24 : Nat)) ||| (UInt64.toUInt32 (List.getD (Vector.toList (uW ((uV t) / ((2 : Nat) ^ (Int.toNat (w64 ((8 : Int) * (w64 ((w64 (Int.tdiv (w64 ((((lenN (uV t)) : Nat) : Int) + (7 : Int))) (8 : Int))) - (3 : Int)))))))))) (0 : Nat) (0 : UInt64))))))))) (condP (decide ((8388607 : UInt64) < (List.getD (Vector.toList (uW ((uV t) * ((2 : Nat) ^ (Int.toNat (w64 ((8 : Int) * (w64 ((3 : Int) - (w64 (Int.tdiv (w64 ((((lenN (uV t)) : Nat) : Int) + (7 : Int))) (8 : Int)))))))))))) (0 : Nat) (0 : UInt64)))) (Q (target_Bits_enc ((shl_u32 (UInt32.ofInt (w64 ((w64 (Int.tdiv (w64 ((((lenN (uV t)) : Nat) : Int) + (7 : Int))) (8 : Int))) + (1 : Int)))) (24 : Nat)) ||| (UInt64.toUInt32 (shr_u64 (List.getD (Vector.toList (uW ((uV t) * ((2 : Nat) ^ (Int.toNat (w64 ((8 : Int) * (w64 ((3 : Int) - (w64 (Int.tdiv (w64 ((((lenN (uV t)) : Nat) : Int) + (7 : Int))) (8 : Int)))))))))))) (0 : Nat) (0 : UInt64)) (8 : Nat)))))) (Q (target_Bits_enc ((shl_u32 (UInt32.ofInt (w64 (Int.tdiv (w64 ((((lenN (uV t)) : Nat) : Int) + (7 : Int))) (8 : Int)))) (24 : Nat)) ||| (UInt64.toUInt32 (List.getD (Vector.toList (uW ((uV t) * ((2 : Nat) ^ (Int.toNat (w64 ((8 : Int) * (w64 ((3 : Int) - (w64 (Int.tdiv (w64 ((((lenN (uV t)) : Nat) : Int) + (7 : Int))) (8 : Int)))))))))))) (0 : Nat) (0 : UInt64)))))))))))) := by kernel_rfl
theorem target_Bits_w (t : Vector UInt64 4) {r} {Q : CallOut → Prop} (h : target_Bits t = some r) (hQ : Q (target_Bits_enc r)) : evalFnP target_Bits_C target_Bits_lv target_Bits_r target_Bits_hs target_Bits_b [.pv (.arr .u64 4 t)] [] Q :=
  Eq.mpr (target_Bits_e t Q) (have h := (target_Bits_q t).symm.trans h; ⟨by decide +kernel, cond_ok h (fun h => ret_ok (Q := Q) (e := target_Bits_enc) h hQ) (fun h => ite_ok h fun hc0 h => ⟨by decide +kernel, cond_ok h (fun h => ite_ok h fun hc1 h => ⟨by decide +kernel, cond_ok h (fun h => ret_ok (Q := Q) (e := target_Bits_enc) h hQ) (fun h => ret_ok (Q := Q) (e := target_Bits_enc) h hQ)⟩) (fun h => cond_ok h (fun h => ret_ok (Q := Q) (e := target_Bits_enc) h hQ) (fun h => ret_ok (Q := Q) (e := target_Bits_enc) h hQ))⟩)⟩)
def target_Bits_c : Ans
  | [.pv (.arr .u64 4 t)], [] => some (none, target_Bits_enc (bitsW t))
  | _, _ => none
theorem target_Bits_tok : TblOK Try.prog noG target_Bits_T := .cons ⟨by kernel_rfl, big_Len_ok⟩ (.cons ⟨by kernel_rfl, big_Left_ok⟩ (.cons ⟨by kernel_rfl, big_Right_ok⟩ (.nil)))
theorem target_Bits_ok : FnOK Try.prog noG 44 (unW target_Bits_c) := by
  refine FnOK.ofC (T := target_Bits_T) (nt := 37) (np := 0) (nf := false) (hs := target_Bits_hs) (fn := Try.f44) (body := target_Bits_b) target_Bits_tok (by kernel_rfl) (by kernel_rfl) (by kernel_rfl) (by kernel_rfl) (c := target_Bits_c) (lv := target_Bits_lv) ?_
  intro xs mem p out h hp
  unfold target_Bits_c at h
  split at h
  · cases h
    exact target_Bits_w _ (target_Bits_spec _) rfl
  · cases h
end
end Go.Proofs.Ytepcjobghbanmaa.M

namespace Go.Proofs.Ytepcjobghbanmaa.M
open Go
noncomputable section
set_option maxRecDepth 100000
set_option maxHeartbeats 0
noncomputable def target_Of_T : Tbl := [(28, [], big_Of_c), (26, [], big_Right_c), (36, [], big_Len_c), (24, [], big_Left_c), (44, [], target_Bits_c)]
noncomputable def target_Of_C : CfgW := mkC Try.prog noG target_Of_T 50 0 false
def target_Of_lv : Nat → List Nat := fun i => []
noncomputable abbrev target_Of_b : Code := Try.f40.body.getD .skip
noncomputable abbrev target_Of_r : List ResultVar := Try.f40.results.toList
def target_Of_hs : List Nat := []

def target_Of_enc (r : Vector UInt64 4 × Int) : CallOut := ⟨.tup [.pv (.arr .u64 4 r.1), .pv (.sc .i r.2)], [], true, []⟩
theorem target_Of_e (b : UInt32) (Q : CallOut → Prop) : evalFnP target_Of_C target_Of_lv target_Of_r target_Of_hs target_Of_b [.pv (.sc .u32 b)] [] Q =
    ((((-(9223372036854775808 : Int)) ≤ (w64 ((8 : Int) * (w64 ((3 : Int) - (((UInt32.toNat (shr_u32 b (24 : Nat))) : Nat) : Int)))))) ∧ ((w64 ((8 : Int) * (w64 ((3 : Int) - (((UInt32.toNat (shr_u32 b (24 : Nat))) : Nat) : Int))))) < (9223372036854775808 : Int))) ∧ (condP (decide ((3 : Int) < (((UInt32.toNat (shr_u32 b (24 : Nat))) : Nat) : Int))) (condP (decide ((256 : Int) < (w64 ((((lenN (uV (uW (UInt64.toNat (UInt32.toUInt64 (b &&& (8388607 : UInt32))))))) : Nat) : Int) + (w64 ((8 : Int) * (w64 ((((UInt32.toNat (shr_u32 b (24 : Nat))) : Nat) : Int) - (3 : Int))))))))) (Q (target_Of_enc ((Vector.replicate (4 : Nat) (0 : UInt64)), (5 : Int)))) ((((-(9223372036854775808 : Int)) ≤ (w64 ((8 : Int) * (w64 ((((UInt32.toNat (shr_u32 b (24 : Nat))) : Nat) : Int) - (3 : Int)))))) ∧ ((w64 ((8 : Int) * (w64 ((((UInt32.toNat (shr_u32 b (24 : Nat))) : Nat) : Int) - (3 : Int))))) < (9223372036854775808 : Int))) ∧ (condP (eqb (!(decide ((b &&& (8388608 : UInt32)) = (0 : UInt32)))) false) (condP (eqb (bif false then true else (decide ((Vector.toList (uW ((uV (uW (UInt64.toNat (UInt32.toUInt64 (b &&& (8388607 : UInt32)))))) * ((2 : Nat) ^ (Int.toNat (w64 ((8 : Int) * (w64 ((((UInt32.toNat (shr_u32 b (24 : Nat))) : Nat) : Int) - (3 : Int)))))))))) = (Vector.toList (Vector.replicate (4 : Nat) (0 : UInt64)))))) false) (condP (bif false then true else (!(decide ((bitsW (uW ((uV (uW (UInt64.toNat (UInt32.toUInt64 (b &&& (8388607 : UInt32)))))) * ((2 : Nat) ^ (Int.toNat (w64 ((8 : Int) * (w64 ((((UInt32.toNat (shr_u32 b (24 : Nat))) : Nat) : Int) - (3 : Int)))))))))) = b)))) (Q (target_Of_enc ((Vector.replicate (4 : Nat) (0 : UInt64)), (5 : Int)))) (Q (target_Of_enc ((uW ((uV (uW (UInt64.toNat (UInt32.toUInt64 (b &&& (8388607 : UInt32)))))) * ((2 : Nat) ^ (Int.toNat (w64 ((8 : Int) * (w64 ((((UInt32.toNat (shr_u32 b (24 : Nat))) : Nat) : Int) - (3 : Int))))))))), (0 : Int))))) (Q (target_Of_enc ((Vector.replicate (4 : Nat) (0 : UInt64)), (5 : Int))))) (Q (target_Of_enc ((Vector.replicate (4 : Nat) (0 : UInt64)), (5 : Int))))))) (condP (eqb (!(decide ((b &&& (8388608 : UInt32)) = (0 : UInt32)))) false) (condP (eqb (bif false then true else (decide ((Vector.toList (uW ((uV (uW (UInt64.toNat (UInt32.toUInt64 (b &&& (8388607 : UInt32)))))) / ((2 : Nat) ^ (Int.toNat (w64 ((8 : Int) * (w64 ((3 : Int) - (((UInt32.toNat (shr_u32 b (24 : Nat))) : Nat) : Int)))))))))) = (Vector.toList (Vector.replicate (4 : Nat) (0 : UInt64)))))) false) (condP (bif false then true else (!(decide ((bitsW (uW ((uV (uW (UInt64.toNat (UInt32.toUInt64 (b &&& (8388607 : UInt32)))))) / ((2 : Nat) ^ (Int.toNat (w64 ((8 : Int) * (w64 ((3 : Int) - (((UInt32.toNat (shr_u32 b (24 : Nat))) : Nat) : Int)))))))))) = b)))) (Q (target_Of_enc ((Vector.replicate (4 : Nat) (0 : UInt64)), (5 : Int)))) (Q (target_Of_enc ((uW ((uV (uW (UInt64.toNat (UInt32.toUInt64 (b &&& (8388607 : UInt32)))))) / ((2 : Nat) ^ (Int.toNat (w64 ((8 : Int) * (w64 ((3 : Int) - (((UInt32.toNat (shr_u32 b (24 : Nat))) : Nat) : Int))))))))), (0 : Int))))) (Q (target_Of_enc ((Vector.replicate (4 : Nat) (0 : UInt64)), (5 : Int))))) (Q (target_Of_enc ((Vector.replicate (4 : Nat) (0 : UInt64)), (5 : Int))))))) := by kernel_rfl
theorem target_Of_w (b : UInt32) {r} {Q : CallOut → Prop} (h : target_Of b = some r) (hQ : Q (target_Of_enc r)) : evalFnP target_Of_C target_Of_lv target_Of_r target_Of_hs target_Of_b [.pv (.sc .u32 b)] [] Q :=
  Eq.mpr (target_Of_e b Q) (have h := (target_Of_q b).symm.trans h; ite_ok h fun hc0 h => cond_ok h (fun h => cond_ok h (fun h => ret_ok (Q := Q) (e := target_Of_enc) h hQ) (fun h => ite_ok h fun hc1 h => cond_ok h (fun h => cond_ok h (fun h => cond_ok h (fun h => ret_ok (Q := Q) (e := target_Of_enc) h hQ) (fun h => ret_ok (Q := Q) (e := target_Of_enc) h hQ)) (fun h => ret_ok (Q := Q) (e := target_Of_enc) h hQ)) (fun h => ret_ok (Q := Q) (e := target_Of_enc) h hQ))) (fun h => cond_ok h (fun h => cond_ok h (fun h => cond_ok h (fun h => ret_ok (Q := Q) (e := target_Of_enc) h hQ) (fun h => ret_ok (Q := Q) (e := target_Of_enc) h hQ)) (fun h => ret_ok (Q := Q) (e := target_Of_enc) h hQ)) (fun h => ret_ok (Q := Q) (e := target_Of_enc) h hQ)))
def target_Of_c : Ans
  | [.pv (.sc .u32 b)], [] => some (none, target_Of_enc ((ofV b, ofE b)))
  | _, _ => none
theorem target_Of_tok : TblOK Try.prog noG target_Of_T := .cons ⟨by kernel_rfl, big_Of_ok⟩ (.cons ⟨by kernel_rfl, big_Right_ok⟩ (.cons ⟨by kernel_rfl, big_Len_ok⟩ (.cons ⟨by kernel_rfl, big_Left_ok⟩ (.cons ⟨by kernel_rfl, target_Bits_ok⟩ (.nil)))))
theorem target_Of_ok : FnOK Try.prog noG 40 (unW target_Of_c) := by
  refine FnOK.ofC (T := target_Of_T) (nt := 50) (np := 0) (nf := false) (hs := target_Of_hs) (fn := Try.f40) (body := target_Of_b) target_Of_tok (by kernel_rfl) (by kernel_rfl) (by kernel_rfl) (by kernel_rfl) (c := target_Of_c) (lv := target_Of_lv) ?_
  intro xs mem p out h hp
  unfold target_Of_c at h
  split at h
  · cases h
    exact target_Of_w _ (target_Of_spec _) rfl
  · cases h
end
end Go.Proofs.Ytepcjobghbanmaa.M

namespace Go.Proofs.Ytepcjobghbanmaa.M
open Go
noncomputable section
set_option maxRecDepth 100000
set_option maxHeartbeats 0
noncomputable def target_product_T : Tbl := [(38, [], big_Mul_c), (17, [], big_Div_c)]
noncomputable def target_product_C : CfgW := mkC Try.prog noG target_product_T 58 0 false
def target_product_lv : Nat → List Nat := fun i => []
noncomputable abbrev target_product_b : Code := Try.f63.body.getD .skip
noncomputable abbrev target_product_r : List ResultVar := Try.f63.results.toList
def target_product_hs : List Nat := []

def target_product_enc (r : Vector UInt64 4 × Bool) : CallOut := ⟨.tup [.pv (.arr .u64 4 r.1), .pv (.sc .b r.2)], [], true, []⟩
theorem target_product_e (a : Vector UInt64 4) (n : UInt64) (by_2 : UInt64) (Q : CallOut → Prop) : evalFnP target_product_C target_product_lv target_product_r target_product_hs target_product_b [.pv (.arr .u64 4 a), .pv (.sc .u64 n), .pv (.sc .u64 by_2)] [] Q =
    ((((0 : Int) ≤ (2 : Int)) ∧ ((2 : Int) < (4 : Int))) ∧ ((((0 : Int) ≤ (3 : Int)) ∧ ((3 : Int) < (4 : Int))) ∧ ((((0 : Int) ≤ (0 : Int)) ∧ ((0 : Int) < (4 : Int))) ∧ ((((0 : Int) ≤ (1 : Int)) ∧ ((1 : Int) < (4 : Int))) ∧ ((((0 : Int) ≤ (0 : Int)) ∧ ((0 : Int) < (4 : Int))) ∧ ((((0 : Int) ≤ (1 : Int)) ∧ ((1 : Int) < (4 : Int))) ∧ ((((0 : Int) ≤ (0 : Int)) ∧ ((0 : Int) < (4 : Int))) ∧ ((((0 : Int) ≤ (1 : Int)) ∧ ((1 : Int) < (4 : Int))) ∧ ((((0 : Int) ≤ (2 : Int)) ∧ ((2 : Int) < (4 : Int))) ∧ (Q (target_product_enc ((Vector.setIfInBounds (Vector.setIfInBounds (Vector.setIfInBounds (Vector.setIfInBounds (Vector.replicate (4 : Nat) (0 : UInt64)) (0 : Nat) (List.getD (Vector.toList (uW ((uV (Vector.setIfInBounds (Vector.setIfInBounds (Vector.setIfInBounds (Vector.replicate (4 : Nat) (0 : UInt64)) (0 : Nat) (List.getD (Vector.toList (uW ((uV a) * (UInt64.toNat n)))) (0 : Nat) (0 : UInt64))) (1 : Nat) (List.getD (Vector.toList (uW ((uV a) * (UInt64.toNat n)))) (1 : Nat) (0 : UInt64))) (2 : Nat) (divR (Vector.setIfInBounds (Vector.setIfInBounds (Vector.setIfInBounds (Vector.replicate (4 : Nat) (0 : UInt64)) (0 : Nat) (List.getD (Vector.toList (uW ((uV a) * (UInt64.toNat n)))) (2 : Nat) (0 : UInt64))) (1 : Nat) (List.getD (Vector.toList (uW ((uV a) * (UInt64.toNat n)))) (3 : Nat) (0 : UInt64))) (2 : Nat) (mulC a n)) by_2))) / (UInt64.toNat by_2)))) (0 : Nat) (0 : UInt64))) (1 : Nat) (List.getD (Vector.toList (uW ((uV (Vector.setIfInBounds (Vector.setIfInBounds (Vector.setIfInBounds (Vector.replicate (4 : Nat) (0 : UInt64)) (0 : Nat) (List.getD (Vector.toList (uW ((uV a) * (UInt64.toNat n)))) (0 : Nat) (0 : UInt64))) (1 : Nat) (List.getD (Vector.toList (uW ((uV a) * (UInt64.toNat n)))) (1 : Nat) (0 : UInt64))) (2 : Nat) (divR (Vector.setIfInBounds (Vector.setIfInBounds (Vector.setIfInBounds (Vector.replicate (4 : Nat) (0 : UInt64)) (0 : Nat) (List.getD (Vector.toList (uW ((uV a) * (UInt64.toNat n)))) (2 : Nat) (0 : UInt64))) (1 : Nat) (List.getD (Vector.toList (uW ((uV a) * (UInt64.toNat n)))) (3 : Nat) (0 : UInt64))) (2 : Nat) (mulC a n)) by_2))) / (UInt64.toNat by_2)))) (1 : Nat) (0 : UInt64))) (2 : Nat) (List.getD (Vector.toList (uW ((uV (Vector.setIfInBounds (Vector.setIfInBounds (Vector.setIfInBounds (Vector.replicate (4 : Nat) (0 : UInt64)) (0 : Nat) (List.getD (Vector.toList (uW ((uV a) * (UInt64.toNat n)))) (2 : Nat) (0 : UInt64))) (1 : Nat) (List.getD (Vector.toList (uW ((uV a) * (UInt64.toNat n)))) (3 : Nat) (0 : UInt64))) (2 : Nat) (mulC a n))) / (UInt64.toNat by_2)))) (0 : Nat) (0 : UInt64))) (3 : Nat) (List.getD (Vector.toList (uW ((uV (Vector.setIfInBounds (Vector.setIfInBounds (Vector.setIfInBounds (Vector.replicate (4 : Nat) (0 : UInt64)) (0 : Nat) (List.getD (Vector.toList (uW ((uV a) * (UInt64.toNat n)))) (2 : Nat) (0 : UInt64))) (1 : Nat) (List.getD (Vector.toList (uW ((uV a) * (UInt64.toNat n)))) (3 : Nat) (0 : UInt64))) (2 : Nat) (mulC a n))) / (UInt64.toNat by_2)))) (1 : Nat) (0 : UInt64))), (!(decide ((List.getD (Vector.toList (uW ((uV (Vector.setIfInBounds (Vector.setIfInBounds (Vector.setIfInBounds (Vector.replicate (4 : Nat) (0 : UInt64)) (0 : Nat) (List.getD (Vector.toList (uW ((uV a) * (UInt64.toNat n)))) (2 : Nat) (0 : UInt64))) (1 : Nat) (List.getD (Vector.toList (uW ((uV a) * (UInt64.toNat n)))) (3 : Nat) (0 : UInt64))) (2 : Nat) (mulC a n))) / (UInt64.toNat by_2)))) (2 : Nat) (0 : UInt64)) = (0 : UInt64)))))))))))))))) := by kernel_rfl
theorem target_product_w (a : Vector UInt64 4) (n : UInt64) (by_2 : UInt64) {Q : CallOut → Prop} (h : Q (target_product_enc (target_product a n by_2))) : evalFnP target_product_C target_product_lv target_product_r target_product_hs target_product_b [.pv (.arr .u64 4 a), .pv (.sc .u64 n), .pv (.sc .u64 by_2)] [] Q :=
  Eq.mpr (target_product_e a n by_2 Q) (have h := Eq.mp (congrArg (fun r => Q (target_product_enc r)) (target_product_q a n by_2)) h; ⟨by decide +kernel, ⟨by decide +kernel, ⟨by decide +kernel, ⟨by decide +kernel, ⟨by decide +kernel, ⟨by decide +kernel, ⟨by decide +kernel, ⟨by decide +kernel, ⟨by decide +kernel, h⟩⟩⟩⟩⟩⟩⟩⟩⟩)
def target_product_c : Ans
  | [.pv (.arr .u64 4 a), .pv (.sc .u64 n), .pv (.sc .u64 by_2)], [] => some (none, target_product_enc ((prodV a n by_2, prodB a n by_2)))
  | _, _ => none
theorem target_product_tok : TblOK Try.prog noG target_product_T := .cons ⟨by kernel_rfl, big_Mul_ok⟩ (.cons ⟨by kernel_rfl, big_Div_ok⟩ (.nil))
theorem target_product_ok : FnOK Try.prog noG 63 (unW target_product_c) := by
  refine FnOK.ofC (T := target_product_T) (nt := 58) (np := 0) (nf := false) (hs := target_product_hs) (fn := Try.f63) (body := target_product_b) target_product_tok (by kernel_rfl) (by kernel_rfl) (by kernel_rfl) (by kernel_rfl) (c := target_product_c) (lv := target_product_lv) ?_
  intro xs mem p out h hp
  unfold target_product_c at h
  split at h
  · cases h
    exact target_product_w _ _ _ (congrArg target_product_enc (target_product_spec _ _ _))
  · cases h
end
end Go.Proofs.Ytepcjobghbanmaa.M

namespace Go.Proofs.Ytepcjobghbanmaa.M
open Go
noncomputable section
set_option maxRecDepth 100000
set_option maxHeartbeats 0
noncomputable def target_Next_T : Tbl := [(40, [], target_Of_c), (63, [], target_product_c), (34, [], big_Less_c), (28, [], big_Of_c), (44, [], target_Bits_c)]
noncomputable def target_Next_C : CfgW := mkC Try.prog noG target_Next_T 50 0 false
def target_Next_lv : Nat → List Nat := fun i => []
noncomputable abbrev target_Next_b : Code := Try.f47.body.getD .skip
noncomputable abbrev target_Next_r : List ResultVar := Try.f47.results.toList
def target_Next_hs : List Nat := []

def target_Next_enc (r : UInt32 × Int) : CallOut := ⟨.tup [.pv (.sc .u32 r.1), .pv (.sc .i r.2)], [], true, []⟩
theorem target_Next_e (b : UInt32) (span : UInt32) (Q : CallOut → Prop) : evalFnP target_Next_C target_Next_lv target_Next_r target_Next_hs target_Next_b [.pv (.sc .u32 b), .pv (.sc .u32 span)] [] Q =
    (condP (!(decide ((ofE b) = (0 : Int)))) (Q (target_Next_enc ((0 : UInt32), (ofE b)))) (condP (eqb (prodB (ofV b) (bif true then (if ((1920 : UInt64) < (bif false then (if ((120 : UInt64) < (UInt32.toUInt64 span)) then (120 : UInt64) else (UInt32.toUInt64 span)) else (if ((UInt32.toUInt64 span) < (120 : UInt64)) then (120 : UInt64) else (UInt32.toUInt64 span)))) then (1920 : UInt64) else (bif false then (if ((120 : UInt64) < (UInt32.toUInt64 span)) then (120 : UInt64) else (UInt32.toUInt64 span)) else (if ((UInt32.toUInt64 span) < (120 : UInt64)) then (120 : UInt64) else (UInt32.toUInt64 span)))) else (if ((bif false then (if ((120 : UInt64) < (UInt32.toUInt64 span)) then (120 : UInt64) else (UInt32.toUInt64 span)) else (if ((UInt32.toUInt64 span) < (120 : UInt64)) then (120 : UInt64) else (UInt32.toUInt64 span))) < (1920 : UInt64)) then (1920 : UInt64) else (bif false then (if ((120 : UInt64) < (UInt32.toUInt64 span)) then (120 : UInt64) else (UInt32.toUInt64 span)) else (if ((UInt32.toUInt64 span) < (120 : UInt64)) then (120 : UInt64) else (UInt32.toUInt64 span))))) (480 : UInt64)) false) (condP (bif false then true else (subB (ofV (545259519 : UInt32)) (prodV (ofV b) (bif true then (if ((1920 : UInt64) < (bif false then (if ((120 : UInt64) < (UInt32.toUInt64 span)) then (120 : UInt64) else (UInt32.toUInt64 span)) else (if ((UInt32.toUInt64 span) < (120 : UInt64)) then (120 : UInt64) else (UInt32.toUInt64 span)))) then (1920 : UInt64) else (bif false then (if ((120 : UInt64) < (UInt32.toUInt64 span)) then (120 : UInt64) else (UInt32.toUInt64 span)) else (if ((UInt32.toUInt64 span) < (120 : UInt64)) then (120 : UInt64) else (UInt32.toUInt64 span)))) else (if ((bif false then (if ((120 : UInt64) < (UInt32.toUInt64 span)) then (120 : UInt64) else (UInt32.toUInt64 span)) else (if ((UInt32.toUInt64 span) < (120 : UInt64)) then (120 : UInt64) else (UInt32.toUInt64 span))) < (1920 : UInt64)) then (1920 : UInt64) else (bif false then (if ((120 : UInt64) < (UInt32.toUInt64 span)) then (120 : UInt64) else (UInt32.toUInt64 span)) else (if ((UInt32.toUInt64 span) < (120 : UInt64)) then (120 : UInt64) else (UInt32.toUInt64 span))))) (480 : UInt64)))) (Q (target_Next_enc ((bitsW (ofV (545259519 : UInt32))), (0 : Int)))) (condP (decide ((Vector.toList (prodV (ofV b) (bif true then (if ((1920 : UInt64) < (bif false then (if ((120 : UInt64) < (UInt32.toUInt64 span)) then (120 : UInt64) else (UInt32.toUInt64 span)) else (if ((UInt32.toUInt64 span) < (120 : UInt64)) then (120 : UInt64) else (UInt32.toUInt64 span)))) then (1920 : UInt64) else (bif false then (if ((120 : UInt64) < (UInt32.toUInt64 span)) then (120 : UInt64) else (UInt32.toUInt64 span)) else (if ((UInt32.toUInt64 span) < (120 : UInt64)) then (120 : UInt64) else (UInt32.toUInt64 span)))) else (if ((bif false then (if ((120 : UInt64) < (UInt32.toUInt64 span)) then (120 : UInt64) else (UInt32.toUInt64 span)) else (if ((UInt32.toUInt64 span) < (120 : UInt64)) then (120 : UInt64) else (UInt32.toUInt64 span))) < (1920 : UInt64)) then (1920 : UInt64) else (bif false then (if ((120 : UInt64) < (UInt32.toUInt64 span)) then (120 : UInt64) else (UInt32.toUInt64 span)) else (if ((UInt32.toUInt64 span) < (120 : UInt64)) then (120 : UInt64) else (UInt32.toUInt64 span))))) (480 : UInt64))) = (Vector.toList (Vector.replicate (4 : Nat) (0 : UInt64))))) (Q (target_Next_enc ((bitsW (uW (1 : Nat))), (0 : Int)))) (Q (target_Next_enc ((bitsW (prodV (ofV b) (bif true then (if ((1920 : UInt64) < (bif false then (if ((120 : UInt64) < (UInt32.toUInt64 span)) then (120 : UInt64) else (UInt32.toUInt64 span)) else (if ((UInt32.toUInt64 span) < (120 : UInt64)) then (120 : UInt64) else (UInt32.toUInt64 span)))) then (1920 : UInt64) else (bif false then (if ((120 : UInt64) < (UInt32.toUInt64 span)) then (120 : UInt64) else (UInt32.toUInt64 span)) else (if ((UInt32.toUInt64 span) < (120 : UInt64)) then (120 : UInt64) else (UInt32.toUInt64 span)))) else (if ((bif false then (if ((120 : UInt64) < (UInt32.toUInt64 span)) then (120 : UInt64) else (UInt32.toUInt64 span)) else (if ((UInt32.toUInt64 span) < (120 : UInt64)) then (120 : UInt64) else (UInt32.toUInt64 span))) < (1920 : UInt64)) then (1920 : UInt64) else (bif false then (if ((120 : UInt64) < (UInt32.toUInt64 span)) then (120 : UInt64) else (UInt32.toUInt64 span)) else (if ((UInt32.toUInt64 span) < (120 : UInt64)) then (120 : UInt64) else (UInt32.toUInt64 span))))) (480 : UInt64))), (0 : Int)))))) (Q (target_Next_enc ((bitsW (ofV (545259519 : UInt32))), (0 : Int)))))) := by kernel_rfl
theorem target_Next_w (b : UInt32) (span : UInt32) {Q : CallOut → Prop} (h : Q (target_Next_enc (target_Next b span))) : evalFnP target_Next_C target_Next_lv target_Next_r target_Next_hs target_Next_b [.pv (.sc .u32 b), .pv (.sc .u32 span)] [] Q :=
  Eq.mpr (target_Next_e b span Q) (have h := Eq.mp (congrArg (fun r => Q (target_Next_enc r)) (target_Next_q b span)) h; cond_ok2 (Q := fun r => Q (target_Next_enc r)) h (fun h => h) (fun h => cond_ok2 (Q := fun r => Q (target_Next_enc r)) h (fun h => cond_ok2 (Q := fun r => Q (target_Next_enc r)) h (fun h => h) (fun h => cond_ok2 (Q := fun r => Q (target_Next_enc r)) h (fun h => h) (fun h => h))) (fun h => h)))
def target_Next_c : Ans
  | [.pv (.sc .u32 b), .pv (.sc .u32 span)], [] => some (none, target_Next_enc ((nextW b span, ofE b)))
  | _, _ => none
theorem target_Next_tok : TblOK Try.prog noG target_Next_T := .cons ⟨by kernel_rfl, target_Of_ok⟩ (.cons ⟨by kernel_rfl, target_product_ok⟩ (.cons ⟨by kernel_rfl, big_Less_ok⟩ (.cons ⟨by kernel_rfl, big_Of_ok⟩ (.cons ⟨by kernel_rfl, target_Bits_ok⟩ (.nil)))))
theorem target_Next_ok : FnOK Try.prog noG 47 (unW target_Next_c) := by
  refine FnOK.ofC (T := target_Next_T) (nt := 50) (np := 0) (nf := false) (hs := target_Next_hs) (fn := Try.f47) (body := target_Next_b) target_Next_tok (by kernel_rfl) (by kernel_rfl) (by kernel_rfl) (by kernel_rfl) (c := target_Next_c) (lv := target_Next_lv) ?_
  intro xs mem p out h hp
  unfold target_Next_c at h
  split at h
  · cases h
    exact target_Next_w _ _ (congrArg target_Next_enc (target_Next_spec _ _))
  · cases h
end
end Go.Proofs.Ytepcjobghbanmaa.M

namespace Go.Proofs.Ytepcjobghbanmaa.M
open Go
noncomputable section
set_option maxRecDepth 100000
set_option maxHeartbeats 0
noncomputable def target_Meets_T : Tbl := [(40, [], target_Of_c), (30, [], big_OfHash_c), (34, [], big_Less_c)]
noncomputable def target_Meets_C : CfgW := mkC Try.prog noG target_Meets_T 21 0 false
def target_Meets_lv : Nat → List Nat := fun i => []
noncomputable abbrev target_Meets_b : Code := Try.f49.body.getD .skip
noncomputable abbrev target_Meets_r : List ResultVar := Try.f49.results.toList
def target_Meets_hs : List Nat := []

def target_Meets_enc (r : Bool) : CallOut := ⟨.pv (.sc .b r), [], true, []⟩
theorem target_Meets_e (h_0 : Vector UInt8 32) (b : UInt32) (Q : CallOut → Prop) : evalFnP target_Meets_C target_Meets_lv target_Meets_r target_Meets_hs target_Meets_b [.pv (.arr .u8 32 h_0), .pv (.sc .u32 b)] [] Q =
    (condP (eqb (decide ((ofE b) = (0 : Int))) true) (Q (target_Meets_enc (bif true then (!(subB (ofV b) (hashU h_0))) else false))) (Q (target_Meets_enc false))) := by kernel_rfl
theorem target_Meets_w (h_0 : Vector UInt8 32) (b : UInt32) {Q : CallOut → Prop} (h : Q (target_Meets_enc (target_Meets h_0 b))) : evalFnP target_Meets_C target_Meets_lv target_Meets_r target_Meets_hs target_Meets_b [.pv (.arr .u8 32 h_0), .pv (.sc .u32 b)] [] Q :=
  Eq.mpr (target_Meets_e h_0 b Q) (have h := Eq.mp (congrArg (fun r => Q (target_Meets_enc r)) (target_Meets_q h_0 b)) h; cond_ok2 (Q := fun r => Q (target_Meets_enc r)) h (fun h => h) (fun h => h))
def target_Meets_c : Ans
  | [.pv (.arr .u8 32 h_0), .pv (.sc .u32 b)], [] => some (none, target_Meets_enc (meetsS h_0 b))
  | _, _ => none
theorem target_Meets_tok : TblOK Try.prog noG target_Meets_T := .cons ⟨by kernel_rfl, target_Of_ok⟩ (.cons ⟨by kernel_rfl, big_OfHash_ok⟩ (.cons ⟨by kernel_rfl, big_Less_ok⟩ (.nil)))
theorem target_Meets_ok : FnOK Try.prog noG 49 (unW target_Meets_c) := by
  refine FnOK.ofC (T := target_Meets_T) (nt := 21) (np := 0) (nf := false) (hs := target_Meets_hs) (fn := Try.f49) (body := target_Meets_b) target_Meets_tok (by kernel_rfl) (by kernel_rfl) (by kernel_rfl) (by kernel_rfl) (c := target_Meets_c) (lv := target_Meets_lv) ?_
  intro xs mem p out h hp
  unfold target_Meets_c at h
  split at h
  · cases h
    exact target_Meets_w _ _ (congrArg target_Meets_enc (target_Meets_spec _ _))
  · cases h
end
end Go.Proofs.Ytepcjobghbanmaa.M

namespace Go.Proofs.Ytepcjobghbanmaa.M
open Go
noncomputable section
set_option maxRecDepth 100000
set_option maxHeartbeats 0
noncomputable def target_Subsidy_T : Tbl := []
noncomputable def target_Subsidy_C : CfgW := mkC Try.prog noG target_Subsidy_T 14 0 false
def target_Subsidy_lv : Nat → List Nat := fun i => []
noncomputable abbrev target_Subsidy_b : Code := Try.f51.body.getD .skip
noncomputable abbrev target_Subsidy_r : List ResultVar := Try.f51.results.toList
def target_Subsidy_hs : List Nat := []

def target_Subsidy_enc (r : UInt64) : CallOut := ⟨.pv (.sc .u64 r), [], true, []⟩
theorem target_Subsidy_e (height : UInt32) (Q : CallOut → Prop) : evalFnP target_Subsidy_C target_Subsidy_lv target_Subsidy_r target_Subsidy_hs target_Subsidy_b [.pv (.sc .u32 height)] [] Q =
    (((16 : UInt32) ≠ (0 : UInt32)) ∧ (condP (eqb (decide ((0 : UInt32) < height)) true) (condP (bif true then (decide ((height / (16 : UInt32)) < (64 : UInt32))) else false) (Q (target_Subsidy_enc (shr_u64 (5000000000 : UInt64) (UInt32.toNat (height / (16 : UInt32)))))) (Q (target_Subsidy_enc (0 : UInt64)))) (Q (target_Subsidy_enc (0 : UInt64))))) := by kernel_rfl
theorem target_Subsidy_w (height : UInt32) {Q : CallOut → Prop} (h : Q (target_Subsidy_enc (target_Subsidy height))) : evalFnP target_Subsidy_C target_Subsidy_lv target_Subsidy_r target_Subsidy_hs target_Subsidy_b [.pv (.sc .u32 height)] [] Q :=
  Eq.mpr (target_Subsidy_e height Q) (have h := Eq.mp (congrArg (fun r => Q (target_Subsidy_enc r)) (target_Subsidy_q height)) h; ⟨by decide +kernel, cond_ok2 (Q := fun r => Q (target_Subsidy_enc r)) h (fun h => cond_ok2 (Q := fun r => Q (target_Subsidy_enc r)) h (fun h => h) (fun h => h)) (fun h => h)⟩)
def target_Subsidy_c : Ans
  | [.pv (.sc .u32 height)], [] => some (none, target_Subsidy_enc (subsS height))
  | _, _ => none
theorem target_Subsidy_tok : TblOK Try.prog noG target_Subsidy_T := .nil
theorem target_Subsidy_ok : FnOK Try.prog noG 51 (unW target_Subsidy_c) := by
  refine FnOK.ofC (T := target_Subsidy_T) (nt := 14) (np := 0) (nf := false) (hs := target_Subsidy_hs) (fn := Try.f51) (body := target_Subsidy_b) target_Subsidy_tok (by kernel_rfl) (by kernel_rfl) (by kernel_rfl) (by kernel_rfl) (c := target_Subsidy_c) (lv := target_Subsidy_lv) ?_
  intro xs mem p out h hp
  unfold target_Subsidy_c at h
  split at h
  · cases h
    exact target_Subsidy_w _ (congrArg target_Subsidy_enc (target_Subsidy_spec _))
  · cases h
end
end Go.Proofs.Ytepcjobghbanmaa.M

namespace Go.Proofs.Ytepcjobghbanmaa.M
open Go
noncomputable section
set_option maxRecDepth 100000
set_option maxHeartbeats 0
noncomputable def target_Work_T : Tbl := [(40, [], target_Of_c), (28, [], big_Of_c), (20, [], big_Add_c), (22, [], big_Sub_c), (15, [], big_Over_c)]
noncomputable def target_Work_C : CfgW := mkC Try.prog noG target_Work_T 52 0 false
def target_Work_lv : Nat → List Nat := fun i => []
noncomputable abbrev target_Work_b : Code := Try.f42.body.getD .skip
noncomputable abbrev target_Work_r : List ResultVar := Try.f42.results.toList
def target_Work_hs : List Nat := []

def target_Work_enc (r : Vector UInt64 4 × Int) : CallOut := ⟨.tup [.pv (.arr .u64 4 r.1), .pv (.sc .i r.2)], [], true, []⟩
theorem target_Work_e (b : UInt32) (Q : CallOut → Prop) : evalFnP target_Work_C target_Work_lv target_Work_r target_Work_hs target_Work_b [.pv (.sc .u32 b)] [] Q =
    (condP (!(decide ((ofE b) = (0 : Int)))) (Q (target_Work_enc ((Vector.replicate (4 : Nat) (0 : UInt64)), (ofE b)))) (condP (addB (ofV b) (uW (1 : Nat))) (Q (target_Work_enc ((uW (1 : Nat)), (0 : Int)))) (Q (target_Work_enc ((addV (ovQ (subV (Vector.replicate (4 : Nat) (0 : UInt64)) (addV (ofV b) (uW (1 : Nat)))) (addV (ofV b) (uW (1 : Nat)))) (uW (1 : Nat))), (0 : Int)))))) := by kernel_rfl
theorem target_Work_w (b : UInt32) {Q : CallOut → Prop} (h : Q (target_Work_enc (target_Work b))) : evalFnP target_Work_C target_Work_lv target_Work_r target_Work_hs target_Work_b [.pv (.sc .u32 b)] [] Q :=
  Eq.mpr (target_Work_e b Q) (have h := Eq.mp (congrArg (fun r => Q (target_Work_enc r)) (target_Work_q b)) h; cond_ok2 (Q := fun r => Q (target_Work_enc r)) h (fun h => h) (fun h => cond_ok2 (Q := fun r => Q (target_Work_enc r)) h (fun h => h) (fun h => h)))
def target_Work_c : Ans
  | [.pv (.sc .u32 b)], [] => some (none, target_Work_enc ((workV b, ofE b)))
  | _, _ => none
theorem target_Work_tok : TblOK Try.prog noG target_Work_T := .cons ⟨by kernel_rfl, target_Of_ok⟩ (.cons ⟨by kernel_rfl, big_Of_ok⟩ (.cons ⟨by kernel_rfl, big_Add_ok⟩ (.cons ⟨by kernel_rfl, big_Sub_ok⟩ (.cons ⟨by kernel_rfl, big_Over_ok⟩ (.nil)))))
theorem target_Work_ok : FnOK Try.prog noG 42 (unW target_Work_c) := by
  refine FnOK.ofC (T := target_Work_T) (nt := 52) (np := 0) (nf := false) (hs := target_Work_hs) (fn := Try.f42) (body := target_Work_b) target_Work_tok (by kernel_rfl) (by kernel_rfl) (by kernel_rfl) (by kernel_rfl) (c := target_Work_c) (lv := target_Work_lv) ?_
  intro xs mem p out h hp
  unfold target_Work_c at h
  split at h
  · cases h
    exact target_Work_w _ (congrArg target_Work_enc (target_Work_spec _))
  · cases h
end
end Go.Proofs.Ytepcjobghbanmaa.M
