/- Part of the proofs: what functions of the program do: plain functions, and the walks that show it. No condition. -/
import Derived.KernelRfl
import Derived.Test.YtbdajagcinfeeaaDoorProg
import Derived.Test.YtbdajagcinfeeaaDoorLe
import Derived.Test.YtbdajagcinfeeaaDoorFbig
import Derived.Test.YtbdajagcinfeeaaDoorSwords
import Derived.Test.YtbdajagcinfeeaaDoorSbigS
import Derived.Test.YtbdajagcinfeeaaDoorSbigB
import Derived.Test.YtbdajagcinfeeaaDoorStarS
import Derived.Test.YtbdajagcinfeeaaDoorSshaK
set_option linter.unusedVariables false
set_option linter.unusedSimpArgs false
set_option autoImplicit false
namespace Go.Proofs.YtbdajagcinfeeaaDoor.M
open Go
noncomputable section
/-- moneyer/target.Bits -/
def target_Bits (t : Vector UInt64 4) : Option (UInt32) :=
  bif decide ((w64 (Int.tdiv (w64 ((((lenN (uV t)) : Nat) : Int) + (7 : Int))) (8 : Int))) = (0 : Int)) then (some (0 : UInt32))
    else (if ((-(9223372036854775808 : Int)) ≤ (w64 ((8 : Int) * (w64 ((3 : Int) - (w64 (Int.tdiv (w64 ((((lenN (uV t)) : Nat) : Int) + (7 : Int))) (8 : Int)))))))) ∧ ((w64 ((8 : Int) * (w64 ((3 : Int) - (w64 (Int.tdiv (w64 ((((lenN (uV t)) : Nat) : Int) + (7 : Int))) (8 : Int))))))) < (9223372036854775808 : Int)) then
      bif decide ((3 : Int) < (w64 (Int.tdiv (w64 ((((lenN (uV t)) : Nat) : Int) + (7 : Int))) (8 : Int)))) then (if ((-(9223372036854775808 : Int)) ≤ (w64 ((8 : Int) * (w64 ((w64 (Int.tdiv (w64 ((((lenN (uV t)) : Nat) : Int) + (7 : Int))) (8 : Int))) - (3 : Int)))))) ∧ ((w64 ((8 : Int) * (w64 ((w64 (Int.tdiv (w64 ((((lenN (uV t)) : Nat) : Int) + (7 : Int))) (8 : Int))) - (3 : Int))))) < (9223372036854775808 : Int)) then
          bif decide ((8388607 : UInt64) < (List.getD (Vector.toList (uW ((uV t) / ((2 : Nat) ^ (Int.toNat (w64 ((8 : Int) * (w64 ((w64 (Int.tdiv (w64 ((((lenN (uV t)) : Nat) : Int) + (7 : Int))) (8 : Int))) - (3 : Int)))))))))) (0 : Nat) (0 : UInt64))) then (some ((shl_u32 (UInt32.ofInt (w64 ((w64 (Int.tdiv (w64 ((((lenN (uV t)) : Nat) : Int) + (7 : Int))) (8 : Int))) + (1 : Int)))) (24 : Nat)) ||| (UInt64.toUInt32 (shr_u64 (List.getD (Vector.toList (uW ((uV t) / ((2 : Nat) ^ (Int.toNat (w64 ((8 : Int) * (w64 ((w64 (Int.tdiv (w64 ((((lenN (uV t)) : Nat) : Int) + (7 : Int))) (8 : Int))) - (3 : Int)))))))))) (0 : Nat) (0 : UInt64)) (8 : Nat)))))
            else (some ((shl_u32 (UInt32.ofInt (w64 (Int.tdiv (w64 ((((lenN (uV t)) : Nat) : Int) + (7 : Int))) (8 : Int)))) (24 : Nat)) ||| (UInt64.toUInt32 (List.getD (Vector.toList (uW ((uV t) / ((2 : Nat) ^ (Int.toNat (w64 ((8 : Int) * (w64 ((w64 (Int.tdiv (w64 ((((lenN (uV t)) : Nat) : Int) + (7 : Int))) (8 : Int))) - (3 : Int)))))))))) (0 : Nat) (0 : UInt64)))))
        else none)
        else (bif decide ((8388607 : UInt64) < (List.getD (Vector.toList (uW ((uV t) * ((2 : Nat) ^ (Int.toNat (w64 ((8 : Int) * (w64 ((3 : Int) - (w64 (Int.tdiv (w64 ((((lenN (uV t)) : Nat) : Int) + (7 : Int))) (8 : Int)))))))))))) (0 : Nat) (0 : UInt64))) then (some ((shl_u32 (UInt32.ofInt (w64 ((w64 (Int.tdiv (w64 ((((lenN (uV t)) : Nat) : Int) + (7 : Int))) (8 : Int))) + (1 : Int)))) (24 : Nat)) ||| (UInt64.toUInt32 (shr_u64 (List.getD (Vector.toList (uW ((uV t) * ((2 : Nat) ^ (Int.toNat (w64 ((8 : Int) * (w64 ((3 : Int) - (w64 (Int.tdiv (w64 ((((lenN (uV t)) : Nat) : Int) + (7 : Int))) (8 : Int)))))))))))) (0 : Nat) (0 : UInt64)) (8 : Nat)))))
          else (some ((shl_u32 (UInt32.ofInt (w64 (Int.tdiv (w64 ((((lenN (uV t)) : Nat) : Int) + (7 : Int))) (8 : Int)))) (24 : Nat)) ||| (UInt64.toUInt32 (List.getD (Vector.toList (uW ((uV t) * ((2 : Nat) ^ (Int.toNat (w64 ((8 : Int) * (w64 ((3 : Int) - (w64 (Int.tdiv (w64 ((((lenN (uV t)) : Nat) : Int) + (7 : Int))) (8 : Int)))))))))))) (0 : Nat) (0 : UInt64))))))
    else none)
theorem target_Bits_q (t : Vector UInt64 4) : target_Bits t = (bif decide ((w64 (Int.tdiv (w64 ((((lenN (uV t)) : Nat) : Int) + (7 : Int))) (8 : Int))) = (0 : Int)) then (some (0 : UInt32))
    else (if ((-(9223372036854775808 : Int)) ≤ (w64 ((8 : Int) * (w64 ((3 : Int) - (w64 (Int.tdiv (w64 ((((lenN (uV t)) : Nat) : Int) + (7 : Int))) (8 : Int)))))))) ∧ ((w64 ((8 : Int) * (w64 ((3 : Int) - (w64 (Int.tdiv (w64 ((((lenN (uV t)) : Nat) : Int) + (7 : Int))) (8 : Int))))))) < (9223372036854775808 : Int)) then
      bif decide ((3 : Int) < (w64 (Int.tdiv (w64 ((((lenN (uV t)) : Nat) : Int) + (7 : Int))) (8 : Int)))) then (if ((-(9223372036854775808 : Int)) ≤ (w64 ((8 : Int) * (w64 ((w64 (Int.tdiv (w64 ((((lenN (uV t)) : Nat) : Int) + (7 : Int))) (8 : Int))) - (3 : Int)))))) ∧ ((w64 ((8 : Int) * (w64 ((w64 (Int.tdiv (w64 ((((lenN (uV t)) : Nat) : Int) + (7 : Int))) (8 : Int))) - (3 : Int))))) < (9223372036854775808 : Int)) then
          bif decide ((8388607 : UInt64) < (List.getD (Vector.toList (uW ((uV t) / ((2 : Nat) ^ (Int.toNat (w64 ((8 : Int) * (w64 ((w64 (Int.tdiv (w64 ((((lenN (uV t)) : Nat) : Int) + (7 : Int))) (8 : Int))) - (3 : Int)))))))))) (0 : Nat) (0 : UInt64))) then (some ((shl_u32 (UInt32.ofInt (w64 ((w64 (Int.tdiv (w64 ((((lenN (uV t)) : Nat) : Int) + (7 : Int))) (8 : Int))) + (1 : Int)))) (24 : Nat)) ||| (UInt64.toUInt32 (shr_u64 (List.getD (Vector.toList (uW ((uV t) / ((2 : Nat) ^ (Int.toNat (w64 ((8 : Int) * (w64 ((w64 (Int.tdiv (w64 ((((lenN (uV t)) : Nat) : Int) + (7 : Int))) (8 : Int))) - (3 : Int)))))))))) (0 : Nat) (0 : UInt64)) (8 : Nat)))))
            else (some ((shl_u32 (UInt32.ofInt (w64 (Int.tdiv (w64 ((((lenN (uV t)) : Nat) : Int) + (7 : Int))) (8 : Int)))) (24 : Nat)) ||| (UInt64.toUInt32 (List.getD (Vector.toList (uW ((uV t) / ((2 : Nat) ^ (Int.toNat (w64 ((8 : Int) * (w64 ((w64 (Int.tdiv (w64 ((((lenN (uV t)) : Nat) : Int) + (7 : Int))) (8 : Int))) - (3 : Int)))))))))) (0 : Nat) (0 : UInt64)))))
        else none)
        else (bif decide ((8388607 : UInt64) < (List.getD (Vector.toList (uW ((uV t) * ((2 : Nat) ^ (Int.toNat (w64 ((8 : Int) * (w64 ((3 : Int) - (w64 (Int.tdiv (w64 ((((lenN (uV t)) : Nat) : Int) + (7 : Int))) (8 : Int)))))))))))) (0 : Nat) (0 : UInt64))) then (some ((shl_u32 (UInt32.ofInt (w64 ((w64 (Int.tdiv (w64 ((((lenN (uV t)) : Nat) : Int) + (7 : Int))) (8 : Int))) + (1 : Int)))) (24 : Nat)) ||| (UInt64.toUInt32 (shr_u64 (List.getD (Vector.toList (uW ((uV t) * ((2 : Nat) ^ (Int.toNat (w64 ((8 : Int) * (w64 ((3 : Int) - (w64 (Int.tdiv (w64 ((((lenN (uV t)) : Nat) : Int) + (7 : Int))) (8 : Int)))))))))))) (0 : Nat) (0 : UInt64)) (8 : Nat)))))
          else (some ((shl_u32 (UInt32.ofInt (w64 (Int.tdiv (w64 ((((lenN (uV t)) : Nat) : Int) + (7 : Int))) (8 : Int)))) (24 : Nat)) ||| (UInt64.toUInt32 (List.getD (Vector.toList (uW ((uV t) * ((2 : Nat) ^ (Int.toNat (w64 ((8 : Int) * (w64 ((3 : Int) - (w64 (Int.tdiv (w64 ((((lenN (uV t)) : Nat) : Int) + (7 : Int))) (8 : Int)))))))))))) (0 : Nat) (0 : UInt64))))))
    else none)) := by kernel_rfl
theorem target_Bits_end (n : Nat) (X : UInt64) (t : Nat) (hn : n = byN t) (ht : t ≠ 0) (h256 : t < 2 ^ 256) (hX : X.toNat = preX t) (R : Vector UInt64 4) (hR : uV R = t) :
    (bif decide ((8388607 : UInt64) < X) then (some ((shl_u32 (UInt32.ofInt (w64 (((n : Nat) : Int) + 1))) 24) ||| (UInt64.toUInt32 (shr_u64 X 8)))) else (some ((shl_u32 (UInt32.ofInt ((n : Nat) : Int)) 24) ||| (UInt64.toUInt32 X)))) = some (bitsW R) := by
  obtain ⟨p1, p2⟩ := bits_pre ht
  have hb := byN_le h256
  have val : ∀ y : UInt32, y.toNat = bitsN t → some y = some (bitsW R) := by
    intro y hy
    exact congrArg some (UInt32.toNat_inj.1 (hy.trans (by rw [bitsW_val, hR])))
  by_cases c : (8388607 : UInt64) < X
  · rw [bif_pos c, show w64 (((n : Nat) : Int) + 1) = ((n + 1 : Nat) : Int) by rw [w64_id (by omega) (by omega)]; omega]
    rw [UInt64.lt_iff_toNat_lt, hX, show (8388607 : UInt64).toNat = 8388607 from rfl] at c
    have e : (UInt64.toUInt32 (shr_u64 X 8)).toNat = preX t / 256 := by
      rw [UInt64.toNat_toUInt32, shr_val _ _ (by omega), hX]
      omega
    refine val _ ?_
    rw [sh24 _ _ (by omega) (by omega), e, p2, if_pos c, hn]
  · rw [bif_neg c]
    rw [UInt64.lt_iff_toNat_lt, hX, show (8388607 : UInt64).toNat = 8388607 from rfl] at c
    have e : (UInt64.toUInt32 X).toNat = preX t := by
      rw [UInt64.toNat_toUInt32, hX]
      omega
    refine val _ ?_
    rw [sh24 _ _ (by omega) (by omega), e, p2, if_neg c, hn]
theorem target_Bits_spec (t : Vector UInt64 4) : target_Bits t = some (bitsW t) := by
  have h256 : uV t < 2 ^ 256 := by rw [two256]; exact uV_lt t
  have hL : lenN (uV t) ≤ 256 := lenN_le.2 h256
  have hb := byN_le h256
  have e1 : w64 (((lenN (uV t) : Nat) : Int) + 7) = ((lenN (uV t) + 7 : Nat) : Int) := by rw [w64_id (by omega) (by omega)]; omega
  have e2 : w64 (Int.tdiv ((lenN (uV t) + 7 : Nat) : Int) 8) = ((byN (uV t) : Nat) : Int) := by
    rw [show Int.tdiv ((lenN (uV t) + 7 : Nat) : Int) 8 = (((lenN (uV t) + 7) / 8 : Nat) : Int) from rfl, w64_nat (by omega)]
    rfl
  rw [target_Bits, e1, e2]
  by_cases c0 : byN (uV t) = 0
  · rw [bif_pos (by omega), bitsW_eq, byN_zero.1 c0]
    unfold bitsN
    rw [if_pos rfl]
    rfl
  have ht : uV t ≠ 0 := fun e => c0 (byN_zero.2 e)
  have hp := (bits_pre ht).1
  rw [bif_neg (by omega)]
  have e3 : w64 ((8 : Int) * w64 ((3 : Int) - ((byN (uV t) : Nat) : Int))) = (8 : Int) * (3 - ((byN (uV t) : Nat) : Int)) := by
    rw [w64_id (x := (3 : Int) - ((byN (uV t) : Nat) : Int)) (by omega) (by omega), w64_id (by omega) (by omega)]
  have e4 : w64 ((8 : Int) * w64 (((byN (uV t) : Nat) : Int) - 3)) = (8 : Int) * (((byN (uV t) : Nat) : Int) - 3) := by
    rw [w64_id (x := ((byN (uV t) : Nat) : Int) - (3 : Int)) (by omega) (by omega), w64_id (by omega) (by omega)]
  rw [e3, e4, if_pos (by omega)]
  have w0 : ∀ N : Nat, N = preX (uV t) → (List.getD (Vector.toList (uW N)) 0 0).toNat = preX (uV t) := by
    intro N hN
    rw [gW_def, uW_get _ _ (by omega), Nat.pow_zero, Nat.div_one, hN]
    omega
  by_cases c3 : byN (uV t) ≤ 3
  · rw [bif_neg (by omega)]
    refine target_Bits_end _ _ (uV t) rfl ht h256 (w0 _ ?_) t rfl
    unfold preX
    rw [if_pos c3, show Int.toNat ((8 : Int) * (3 - ((byN (uV t) : Nat) : Int))) = 8 * (3 - byN (uV t)) by omega]
  · rw [bif_pos (by omega), if_pos (by omega)]
    refine target_Bits_end _ _ (uV t) rfl ht h256 (w0 _ ?_) t rfl
    unfold preX
    rw [if_neg c3, show Int.toNat ((8 : Int) * (((byN (uV t) : Nat) : Int) - 3)) = 8 * (byN (uV t) - 3) by omega]

end
end Go.Proofs.YtbdajagcinfeeaaDoor.M

namespace Go.Proofs.YtbdajagcinfeeaaDoor.M
open Go
noncomputable section
/-- moneyer/target.Of -/
def target_Of (b : UInt32) : Option (Vector UInt64 4 × Int) :=
  if ((-(9223372036854775808 : Int)) ≤ (w64 ((8 : Int) * (w64 ((3 : Int) - (((UInt32.toNat (shr_u32 b (24 : Nat))) : Nat) : Int)))))) ∧ ((w64 ((8 : Int) * (w64 ((3 : Int) - (((UInt32.toNat (shr_u32 b (24 : Nat))) : Nat) : Int))))) < (9223372036854775808 : Int)) then
    bif decide ((3 : Int) < (((UInt32.toNat (shr_u32 b (24 : Nat))) : Nat) : Int)) then (bif decide ((256 : Int) < (w64 ((((lenN (uV (uW (UInt64.toNat (UInt32.toUInt64 (b &&& (8388607 : UInt32))))))) : Nat) : Int) + (w64 ((8 : Int) * (w64 ((((UInt32.toNat (shr_u32 b (24 : Nat))) : Nat) : Int) - (3 : Int)))))))) then (some ((Vector.replicate (4 : Nat) (0 : UInt64)), (5 : Int)))
        else (if ((-(9223372036854775808 : Int)) ≤ (w64 ((8 : Int) * (w64 ((((UInt32.toNat (shr_u32 b (24 : Nat))) : Nat) : Int) - (3 : Int)))))) ∧ ((w64 ((8 : Int) * (w64 ((((UInt32.toNat (shr_u32 b (24 : Nat))) : Nat) : Int) - (3 : Int))))) < (9223372036854775808 : Int)) then
          bif eqb (!(decide ((b &&& (8388608 : UInt32)) = (0 : UInt32)))) false then (bif eqb (bif false then true else (decide ((Vector.toList (uW ((uV (uW (UInt64.toNat (UInt32.toUInt64 (b &&& (8388607 : UInt32)))))) * ((2 : Nat) ^ (Int.toNat (w64 ((8 : Int) * (w64 ((((UInt32.toNat (shr_u32 b (24 : Nat))) : Nat) : Int) - (3 : Int)))))))))) = (Vector.toList (Vector.replicate (4 : Nat) (0 : UInt64)))))) false then (bif bif false then true else (!(decide ((bitsW (uW ((uV (uW (UInt64.toNat (UInt32.toUInt64 (b &&& (8388607 : UInt32)))))) * ((2 : Nat) ^ (Int.toNat (w64 ((8 : Int) * (w64 ((((UInt32.toNat (shr_u32 b (24 : Nat))) : Nat) : Int) - (3 : Int)))))))))) = b))) then (some ((Vector.replicate (4 : Nat) (0 : UInt64)), (5 : Int)))
                else (some ((uW ((uV (uW (UInt64.toNat (UInt32.toUInt64 (b &&& (8388607 : UInt32)))))) * ((2 : Nat) ^ (Int.toNat (w64 ((8 : Int) * (w64 ((((UInt32.toNat (shr_u32 b (24 : Nat))) : Nat) : Int) - (3 : Int))))))))), (0 : Int))))
              else (some ((Vector.replicate (4 : Nat) (0 : UInt64)), (5 : Int))))
            else (some ((Vector.replicate (4 : Nat) (0 : UInt64)), (5 : Int)))
        else none))
      else (bif eqb (!(decide ((b &&& (8388608 : UInt32)) = (0 : UInt32)))) false then (bif eqb (bif false then true else (decide ((Vector.toList (uW ((uV (uW (UInt64.toNat (UInt32.toUInt64 (b &&& (8388607 : UInt32)))))) / ((2 : Nat) ^ (Int.toNat (w64 ((8 : Int) * (w64 ((3 : Int) - (((UInt32.toNat (shr_u32 b (24 : Nat))) : Nat) : Int)))))))))) = (Vector.toList (Vector.replicate (4 : Nat) (0 : UInt64)))))) false then (bif bif false then true else (!(decide ((bitsW (uW ((uV (uW (UInt64.toNat (UInt32.toUInt64 (b &&& (8388607 : UInt32)))))) / ((2 : Nat) ^ (Int.toNat (w64 ((8 : Int) * (w64 ((3 : Int) - (((UInt32.toNat (shr_u32 b (24 : Nat))) : Nat) : Int)))))))))) = b))) then (some ((Vector.replicate (4 : Nat) (0 : UInt64)), (5 : Int)))
            else (some ((uW ((uV (uW (UInt64.toNat (UInt32.toUInt64 (b &&& (8388607 : UInt32)))))) / ((2 : Nat) ^ (Int.toNat (w64 ((8 : Int) * (w64 ((3 : Int) - (((UInt32.toNat (shr_u32 b (24 : Nat))) : Nat) : Int))))))))), (0 : Int))))
          else (some ((Vector.replicate (4 : Nat) (0 : UInt64)), (5 : Int))))
        else (some ((Vector.replicate (4 : Nat) (0 : UInt64)), (5 : Int))))
  else none
theorem target_Of_q (b : UInt32) : target_Of b = (if ((-(9223372036854775808 : Int)) ≤ (w64 ((8 : Int) * (w64 ((3 : Int) - (((UInt32.toNat (shr_u32 b (24 : Nat))) : Nat) : Int)))))) ∧ ((w64 ((8 : Int) * (w64 ((3 : Int) - (((UInt32.toNat (shr_u32 b (24 : Nat))) : Nat) : Int))))) < (9223372036854775808 : Int)) then
    bif decide ((3 : Int) < (((UInt32.toNat (shr_u32 b (24 : Nat))) : Nat) : Int)) then (bif decide ((256 : Int) < (w64 ((((lenN (uV (uW (UInt64.toNat (UInt32.toUInt64 (b &&& (8388607 : UInt32))))))) : Nat) : Int) + (w64 ((8 : Int) * (w64 ((((UInt32.toNat (shr_u32 b (24 : Nat))) : Nat) : Int) - (3 : Int)))))))) then (some ((Vector.replicate (4 : Nat) (0 : UInt64)), (5 : Int)))
        else (if ((-(9223372036854775808 : Int)) ≤ (w64 ((8 : Int) * (w64 ((((UInt32.toNat (shr_u32 b (24 : Nat))) : Nat) : Int) - (3 : Int)))))) ∧ ((w64 ((8 : Int) * (w64 ((((UInt32.toNat (shr_u32 b (24 : Nat))) : Nat) : Int) - (3 : Int))))) < (9223372036854775808 : Int)) then
          bif eqb (!(decide ((b &&& (8388608 : UInt32)) = (0 : UInt32)))) false then (bif eqb (bif false then true else (decide ((Vector.toList (uW ((uV (uW (UInt64.toNat (UInt32.toUInt64 (b &&& (8388607 : UInt32)))))) * ((2 : Nat) ^ (Int.toNat (w64 ((8 : Int) * (w64 ((((UInt32.toNat (shr_u32 b (24 : Nat))) : Nat) : Int) - (3 : Int)))))))))) = (Vector.toList (Vector.replicate (4 : Nat) (0 : UInt64)))))) false then (bif bif false then true else (!(decide ((bitsW (uW ((uV (uW (UInt64.toNat (UInt32.toUInt64 (b &&& (8388607 : UInt32)))))) * ((2 : Nat) ^ (Int.toNat (w64 ((8 : Int) * (w64 ((((UInt32.toNat (shr_u32 b (24 : Nat))) : Nat) : Int) - (3 : Int)))))))))) = b))) then (some ((Vector.replicate (4 : Nat) (0 : UInt64)), (5 : Int)))
                else (some ((uW ((uV (uW (UInt64.toNat (UInt32.toUInt64 (b &&& (8388607 : UInt32)))))) * ((2 : Nat) ^ (Int.toNat (w64 ((8 : Int) * (w64 ((((UInt32.toNat (shr_u32 b (24 : Nat))) : Nat) : Int) - (3 : Int))))))))), (0 : Int))))
              else (some ((Vector.replicate (4 : Nat) (0 : UInt64)), (5 : Int))))
            else (some ((Vector.replicate (4 : Nat) (0 : UInt64)), (5 : Int)))
        else none))
      else (bif eqb (!(decide ((b &&& (8388608 : UInt32)) = (0 : UInt32)))) false then (bif eqb (bif false then true else (decide ((Vector.toList (uW ((uV (uW (UInt64.toNat (UInt32.toUInt64 (b &&& (8388607 : UInt32)))))) / ((2 : Nat) ^ (Int.toNat (w64 ((8 : Int) * (w64 ((3 : Int) - (((UInt32.toNat (shr_u32 b (24 : Nat))) : Nat) : Int)))))))))) = (Vector.toList (Vector.replicate (4 : Nat) (0 : UInt64)))))) false then (bif bif false then true else (!(decide ((bitsW (uW ((uV (uW (UInt64.toNat (UInt32.toUInt64 (b &&& (8388607 : UInt32)))))) / ((2 : Nat) ^ (Int.toNat (w64 ((8 : Int) * (w64 ((3 : Int) - (((UInt32.toNat (shr_u32 b (24 : Nat))) : Nat) : Int)))))))))) = b))) then (some ((Vector.replicate (4 : Nat) (0 : UInt64)), (5 : Int)))
            else (some ((uW ((uV (uW (UInt64.toNat (UInt32.toUInt64 (b &&& (8388607 : UInt32)))))) / ((2 : Nat) ^ (Int.toNat (w64 ((8 : Int) * (w64 ((3 : Int) - (((UInt32.toNat (shr_u32 b (24 : Nat))) : Nat) : Int))))))))), (0 : Int))))
          else (some ((Vector.replicate (4 : Nat) (0 : UInt64)), (5 : Int))))
        else (some ((Vector.replicate (4 : Nat) (0 : UInt64)), (5 : Int))))
  else none) := by kernel_rfl
theorem and_pow (n i : Nat) : n &&& 2 ^ i = if n.testBit i = true then 2 ^ i else 0 := by
  apply Nat.eq_of_testBit_eq
  intro j
  rw [Nat.testBit_and, Nat.testBit_two_pow]
  by_cases h : i = j
  · subst h
    cases hb : n.testBit i <;> simp
  · rw [decide_eq_false h, Bool.and_false]
    split
    · rw [Nat.testBit_two_pow, decide_eq_false h]
    · rw [Nat.zero_testBit]
theorem target_Of_spec (b : UInt32) : target_Of b = some (ofV b, ofE b) := by
  have hbl := b.toNat_lt
  have he : (shr_u32 b 24).toNat = b.toNat / 16777216 := by
    unfold shr_u32
    rw [UInt32.toNat_ofNat', Nat.min_eq_left (by decide)]
    omega
  have hm : (UInt64.toNat (UInt32.toUInt64 (b &&& 8388607))) = b.toNat % 8388608 := by
    rw [UInt32.toNat_toUInt64, UInt32.toNat_and, show (8388607 : UInt32).toNat = 2 ^ 23 - 1 from rfl, Nat.and_two_pow_sub_one_eq_mod]
  have hs : decide ((b &&& 8388608) = 0) = decide (b.toNat / 8388608 % 2 = 0) := by
    rw [decide_eq_decide, ← UInt32.toNat_inj, UInt32.toNat_and, show (8388608 : UInt32).toNat = 2 ^ 23 from rfl, and_pow, Nat.testBit_eq_decide_div_mod_eq, show (0 : UInt32).toNat = 0 from rfl, show 2 ^ 23 = 8388608 from rfl]
    by_cases c : b.toNat / 8388608 % 2 = 1
    · rw [decide_eq_true c, if_pos rfl]; omega
    · rw [decide_eq_false c, if_neg (by decide)]; omega
  have hmv : uV (uW (b.toNat % 8388608)) = b.toNat % 8388608 := by rw [uV_uW, Nat.mod_eq_of_lt (by omega)]
  have fin : ∀ T : Vector UInt64 4, uV T = tgtN b.toNat → tgtN b.toNat < 2 ^ 256 → (bif eqb (!(decide ((b &&& (8388608 : UInt32)) = (0 : UInt32)))) false then (bif eqb (bif false then true else (decide ((Vector.toList T) = (Vector.toList (Vector.replicate 4 (0 : UInt64)))))) false then (bif bif false then true else (!(decide ((bitsW T) = b))) then (some ((Vector.replicate 4 (0 : UInt64)), (5 : Int)))
                else (some (T, (0 : Int))))
              else (some ((Vector.replicate 4 (0 : UInt64)), (5 : Int))))
            else (some ((Vector.replicate 4 (0 : UInt64)), (5 : Int)))) = some (ofV b, ofE b) := by
    intro T hT hlt
    have hz : decide (Vector.toList T = Vector.toList (Vector.replicate 4 (0 : UInt64))) = decide (uV T = 0) := by rw [decide_eq_decide, uV_zero]
    have hq : decide (bitsW T = b) = decide (bitsN (uV T) = b.toNat) := by rw [decide_eq_decide, bitsW_iff]
    rw [← of_end hT hlt hs hz hq]
    cases decide ((b &&& 8388608) = 0) <;> cases decide (Vector.toList T = Vector.toList (Vector.replicate 4 (0 : UInt64))) <;> cases decide (bitsW T = b) <;> rfl
  generalize eE : b.toNat / 16777216 = E at *
  generalize eM : b.toNat % 8388608 = M at *
  have hE : E < 256 := by omega
  have hM : M < 2 ^ 23 := by omega
  have e3 : w64 ((8 : Int) * w64 ((3 : Int) - ((E : Nat) : Int))) = (8 : Int) * (3 - ((E : Nat) : Int)) := by
    rw [w64_id (x := (3 : Int) - ((E : Nat) : Int)) (by omega) (by omega), w64_id (by omega) (by omega)]
  have e4 : w64 ((8 : Int) * w64 (((E : Nat) : Int) - 3)) = (8 : Int) * (((E : Nat) : Int) - 3) := by
    rw [w64_id (x := ((E : Nat) : Int) - (3 : Int)) (by omega) (by omega), w64_id (by omega) (by omega)]
  have tg : tgtN b.toNat = if E ≤ 3 then M / 2 ^ (8 * (3 - E)) else M * 2 ^ (8 * (E - 3)) := by unfold tgtN; rw [eE, eM]
  have hl : lenN M ≤ 23 := lenN_le.2 hM
  rw [target_Of, he, hm, hmv, e3, e4, if_pos (by omega)]
  by_cases c : E ≤ 3
  · rw [bif_neg (by omega), show Int.toNat ((8 : Int) * (3 - ((E : Nat) : Int))) = 8 * (3 - E) by omega]
    rw [if_pos c] at tg
    have hlt : M / 2 ^ (8 * (3 - E)) < 2 ^ 256 := Nat.lt_of_le_of_lt (Nat.div_le_self _ _) (Nat.lt_of_lt_of_le hM (Nat.pow_le_pow_right (by decide) (by decide)))
    exact fin _ (by rw [uV_uW, ← two256, Nat.mod_eq_of_lt hlt, tg]) (by rw [tg]; exact hlt)
  · rw [bif_pos (by omega), show Int.toNat ((8 : Int) * (((E : Nat) : Int) - 3)) = 8 * (E - 3) by omega, w64_id (by omega) (by omega)]
    rw [if_neg c] at tg
    by_cases d : lenN M + 8 * (E - 3) ≤ 256
    · rw [bif_neg (by omega), if_pos (by omega)]
      have hlt : M * 2 ^ (8 * (E - 3)) < 2 ^ 256 := by
        refine Nat.lt_of_lt_of_le (Nat.mul_lt_mul_of_pos_right (lenN_le.1 (Nat.le_refl (lenN M))) (Nat.two_pow_pos _)) ?_
        rw [← Nat.pow_add]
        exact Nat.pow_le_pow_right (by decide) d
      exact fin _ (by rw [uV_uW, ← two256, Nat.mod_eq_of_lt hlt, tg]) (by rw [tg]; exact hlt)
    · rw [bif_pos (by omega)]
      refine congrArg some (of_bad ?_)
      rintro ⟨g1, g2, g3, g4⟩
      rw [tg] at g1 g3
      have hM0 : M ≠ 0 := by
        intro e
        rw [e, Nat.zero_mul] at g3
        exact g3 rfl
      obtain ⟨h0, h1, h2⟩ := lenN_pos hM0
      have := Nat.mul_le_mul_right (2 ^ (8 * (E - 3))) h1
      rw [← Nat.pow_add] at this
      have : 2 ^ 256 ≤ 2 ^ (lenN M - 1 + 8 * (E - 3)) := Nat.pow_le_pow_right (by decide) (by omega)
      omega

end
end Go.Proofs.YtbdajagcinfeeaaDoor.M

namespace Go.Proofs.YtbdajagcinfeeaaDoor.M
open Go
noncomputable section
/-- moneyer/target.Meets -/
def target_Meets (h_0 : Vector UInt8 32) (b : UInt32) : Bool :=
  bif eqb (decide ((ofE b) = (0 : Int))) true then ((bif true then (!(subB (ofV b) (hashU h_0))) else false))
    else (false)
theorem target_Meets_q (h_0 : Vector UInt8 32) (b : UInt32) : target_Meets h_0 b = (bif eqb (decide ((ofE b) = (0 : Int))) true then ((bif true then (!(subB (ofV b) (hashU h_0))) else false))
    else (false)) := by kernel_rfl
theorem target_Meets_spec (h : Vector UInt8 32) (b : UInt32) : target_Meets h b = meetsS h b := by
  rw [target_Meets, meetsS_eq]
  cases decide (ofE b = 0) <;> rfl

end
end Go.Proofs.YtbdajagcinfeeaaDoor.M

namespace Go.Proofs.YtbdajagcinfeeaaDoor.M
open Go
noncomputable section
set_option maxRecDepth 100000
set_option maxHeartbeats 0
noncomputable def target_Bits_T : Tbl := [(70, [], big_Len_c), (71, [], big_Left_c), (69, [], big_Right_c)]
noncomputable def target_Bits_C : CfgW := mkC Tryd.prog theG target_Bits_T 37 0 false
def target_Bits_lv : Nat → List Nat := fun i => []
noncomputable abbrev target_Bits_b : Code := Tryd.f72.body.getD .skip
noncomputable abbrev target_Bits_r : List ResultVar := Tryd.f72.results.toList
def target_Bits_hs : List Nat := []

def target_Bits_enc (r : UInt32) : CallOut := ⟨.pv (.sc .u32 r), [], true, []⟩
theorem target_Bits_e (t : Vector UInt64 4) (Q : CallOut → Prop) : evalFnP target_Bits_C target_Bits_lv target_Bits_r target_Bits_hs target_Bits_b [.pv (.arr .u64 4 t)] [] Q =
    (((8 : Int) ≠ (0 : Int)) ∧ (condP (decide ((w64 (Int.tdiv (w64 ((((lenN (uV t)) : Nat) : Int) + (7 : Int))) (8 : Int))) = (0 : Int))) (Q (target_Bits_enc (0 : UInt32))) ((((-(9223372036854775808 : Int)) ≤ (w64 ((8 : Int) * (w64 ((3 : Int) - (w64 (Int.tdiv (w64 ((((lenN (uV t)) : Nat) : Int) + (7 : Int))) (8 : Int)))))))) ∧ ((w64 ((8 : Int) * (w64 ((3 : Int) - (w64 (Int.tdiv (w64 ((((lenN (uV t)) : Nat) : Int) + (7 : Int))) (8 : Int))))))) < (9223372036854775808 : Int))) ∧ ((((0 : Int) ≤ (0 : Int)) ∧ ((0 : Int) < (4 : Int))) ∧ (condP (decide ((3 : Int) < (w64 (Int.tdiv (w64 ((((lenN (uV t)) : Nat) : Int) + (7 : Int))) (8 : Int))))) ((((-(9223372036854775808 : Int)) ≤ (w64 ((8 : Int) * (w64 ((w64 (Int.tdiv (w64 ((((lenN (uV t)) : Nat) : Int) + (7 : Int))) (8 : Int))) - (3 : Int)))))) ∧ ((w64 ((8 : Int) * (w64 ((w64 (Int.tdiv (w64 ((((lenN (uV t)) : Nat) : Int) + (7 : Int))) (8 : Int))) - (3 : Int))))) < (9223372036854775808 : Int))) ∧ ((((0 : Int) ≤ (0 : Int)) ∧ ((0 : Int) < (4 : Int))) ∧ (condP (decide ((8388607 : UInt64) < (List.getD (Vector.toList (uW ((uV t) / ((2 : Nat) ^ (Int.toNat (w64 ((8 : Int) * (w64 ((w64 (Int.tdiv (w64 ((((lenN (uV t)) : Nat) : Int) + (7 : Int))) (8 : Int))) - (3 : Int)))))))))) (0 : Nat) (0 : UInt64)))) (Q (target_Bits_enc ((shl_u32 (UInt32.ofInt (w64 ((w64 (Int.tdiv (w64 ((((lenN (uV t)) : Nat) : Int) + (7 : Int))) (8 : Int))) + (1 : Int)))) (24 : Nat)) ||| (UInt64.toUInt32 (shr_u64 (List.getD (Vector.toList (uW ((uV t) / ((2 : Nat) ^ (Int.toNat (w64 ((8 : Int) * (w64 ((w64 (Int.tdiv (w64 ((((lenN (uV t)) : Nat) : Int) + (7 : Int))) (8 : Int))) - (3 : Int)))))))))) (0 : Nat) (0 : UInt64)) (8 : Nat)))))) (Q (target_Bits_enc ((shl_u32 (UInt32.ofInt (w64 (Int.tdiv (w64 ((((lenN (uV t)) : Nat) : Int) + (7 : Int))) (8 : Int)))) (24 : Nat)) ||| (UInt64.toUInt32 (List.getD (Vector.toList (uW ((uV t) / ((2 : Nat) ^ (Int.toNat (w64 ((8 : Int) * (w64 ((w64 (Int.tdiv (w64 ((((lenN (uV t)) : Nat) : Int) + (7 : Int))) (8 : Int))) - (3 : Int)))))))))) (0 : Nat) (0 : UInt64))))))))) (condP (decide ((8388607 : UInt64) < (List.getD (Vector.toList (uW ((uV t) * ((2 : Nat) ^ (Int.toNat (w64 ((8 : Int) * (w64 ((3 : Int) - (w64 (Int.tdiv (w64 ((((lenN (uV t)) : Nat) : Int) + (7 : Int))) (8 : Int)))))))))))) (0 : Nat) (0 : UInt64)))) (Q (target_Bits_enc ((shl_u32 (UInt32.ofInt (w64 ((w64 (Int.tdiv (w64 ((((lenN (uV t)) : Nat) : Int) + (7 : Int))) (8 : Int))) + (1 : Int)))) (24 : Nat)) ||| (UInt64.toUInt32 (shr_u64 (List.getD (Vector.toList (uW ((uV t) * ((2 : Nat) ^ (Int.toNat (w64 ((8 : Int) * (w64 ((3 : Int) - (w64 (Int.tdiv (w64 ((((lenN (uV t)) : Nat) : Int) + (7 : Int))) (8 : Int)))))))))))) (0 : Nat) (0 : UInt64)) (8 : Nat)))))) (Q (target_Bits_enc ((shl_u32 (UInt32.ofInt (w64 (Int.tdiv (w64 ((((lenN (uV t)) : Nat) : Int) + (7 : Int))) (8 : Int)))) (24 : Nat)) ||| (UInt64.toUInt32 (List.getD (Vector.toList (uW ((uV t) * ((2 : Nat) ^ (Int.toNat (w64 ((8 : Int) * (w64 ((3 : Int) - (w64 (Int.tdiv (w64 ((((lenN (uV t)) : Nat) : Int) + (7 : Int))) (8 : Int)))))))))))) (0 : Nat) (0 : UInt64)))))))))))) := by kernel_rfl
theorem target_Bits_w (t : Vector UInt64 4) {r} {Q : CallOut → Prop} (h : target_Bits t = some r) (hQ : Q (target_Bits_enc r)) : evalFnP target_Bits_C target_Bits_lv target_Bits_r target_Bits_hs target_Bits_b [.pv (.arr .u64 4 t)] [] Q :=
  Eq.mpr (target_Bits_e t Q) (have h := (target_Bits_q t).symm.trans h; ⟨by decide +kernel, cond_ok h (fun h => ret_ok (Q := Q) (e := target_Bits_enc) h hQ) (fun h => ite_ok h fun hc0 h => ⟨by decide +kernel, cond_ok h (fun h => ite_ok h fun hc1 h => ⟨by decide +kernel, cond_ok h (fun h => ret_ok (Q := Q) (e := target_Bits_enc) h hQ) (fun h => ret_ok (Q := Q) (e := target_Bits_enc) h hQ)⟩) (fun h => cond_ok h (fun h => ret_ok (Q := Q) (e := target_Bits_enc) h hQ) (fun h => ret_ok (Q := Q) (e := target_Bits_enc) h hQ))⟩)⟩)
def target_Bits_c : Ans
  | [.pv (.arr .u64 4 t)], [] => some (none, target_Bits_enc (bitsW t))
  | _, _ => none
theorem target_Bits_tok : TblOK Tryd.prog theG target_Bits_T := .cons ⟨by kernel_rfl, big_Len_ok⟩ (.cons ⟨by kernel_rfl, big_Left_ok⟩ (.cons ⟨by kernel_rfl, big_Right_ok⟩ (.nil)))
theorem target_Bits_ok : FnOK Tryd.prog theG 72 (unW target_Bits_c) := by
  refine FnOK.ofC (T := target_Bits_T) (nt := 37) (np := 0) (mv := []) (nf := false) (hs := target_Bits_hs) (fn := Tryd.f72) (body := target_Bits_b) target_Bits_tok (by kernel_rfl) (by kernel_rfl) (by kernel_rfl) (by kernel_rfl) (c := target_Bits_c) (lv := target_Bits_lv) ?_
  intro xs mem p out h hp
  unfold target_Bits_c at h
  split at h
  · cases h
    exact target_Bits_w _ (target_Bits_spec _) rfl
  · cases h
end
end Go.Proofs.YtbdajagcinfeeaaDoor.M

namespace Go.Proofs.YtbdajagcinfeeaaDoor.M
open Go
noncomputable section
set_option maxRecDepth 100000
set_option maxHeartbeats 0
noncomputable def target_Of_T : Tbl := [(68, [], big_Of_c), (69, [], big_Right_c), (70, [], big_Len_c), (71, [], big_Left_c), (72, [], target_Bits_c)]
noncomputable def target_Of_C : CfgW := mkC Tryd.prog theG target_Of_T 50 0 false
def target_Of_lv : Nat → List Nat := fun i => []
noncomputable abbrev target_Of_b : Code := Tryd.f54.body.getD .skip
noncomputable abbrev target_Of_r : List ResultVar := Tryd.f54.results.toList
def target_Of_hs : List Nat := []

def target_Of_enc (r : Vector UInt64 4 × Int) : CallOut := ⟨.tup [.pv (.arr .u64 4 r.1), .pv (.sc .i r.2)], [], true, []⟩
theorem target_Of_e (b : UInt32) (Q : CallOut → Prop) : evalFnP target_Of_C target_Of_lv target_Of_r target_Of_hs target_Of_b [.pv (.sc .u32 b)] [] Q =
    ((((-(9223372036854775808 : Int)) ≤ (w64 ((8 : Int) * (w64 ((3 : Int) - (((UInt32.toNat (shr_u32 b (24 : Nat))) : Nat) : Int)))))) ∧ ((w64 ((8 : Int) * (w64 ((3 : Int) - (((UInt32.toNat (shr_u32 b (24 : Nat))) : Nat) : Int))))) < (9223372036854775808 : Int))) ∧ (condP (decide ((3 : Int) < (((UInt32.toNat (shr_u32 b (24 : Nat))) : Nat) : Int))) (condP (decide ((256 : Int) < (w64 ((((lenN (uV (uW (UInt64.toNat (UInt32.toUInt64 (b &&& (8388607 : UInt32))))))) : Nat) : Int) + (w64 ((8 : Int) * (w64 ((((UInt32.toNat (shr_u32 b (24 : Nat))) : Nat) : Int) - (3 : Int))))))))) (Q (target_Of_enc ((Vector.replicate (4 : Nat) (0 : UInt64)), (5 : Int)))) ((((-(9223372036854775808 : Int)) ≤ (w64 ((8 : Int) * (w64 ((((UInt32.toNat (shr_u32 b (24 : Nat))) : Nat) : Int) - (3 : Int)))))) ∧ ((w64 ((8 : Int) * (w64 ((((UInt32.toNat (shr_u32 b (24 : Nat))) : Nat) : Int) - (3 : Int))))) < (9223372036854775808 : Int))) ∧ (condP (eqb (!(decide ((b &&& (8388608 : UInt32)) = (0 : UInt32)))) false) (condP (eqb (bif false then true else (decide ((Vector.toList (uW ((uV (uW (UInt64.toNat (UInt32.toUInt64 (b &&& (8388607 : UInt32)))))) * ((2 : Nat) ^ (Int.toNat (w64 ((8 : Int) * (w64 ((((UInt32.toNat (shr_u32 b (24 : Nat))) : Nat) : Int) - (3 : Int)))))))))) = (Vector.toList (Vector.replicate (4 : Nat) (0 : UInt64)))))) false) (condP (bif false then true else (!(decide ((bitsW (uW ((uV (uW (UInt64.toNat (UInt32.toUInt64 (b &&& (8388607 : UInt32)))))) * ((2 : Nat) ^ (Int.toNat (w64 ((8 : Int) * (w64 ((((UInt32.toNat (shr_u32 b (24 : Nat))) : Nat) : Int) - (3 : Int)))))))))) = b)))) (Q (target_Of_enc ((Vector.replicate (4 : Nat) (0 : UInt64)), (5 : Int)))) (Q (target_Of_enc ((uW ((uV (uW (UInt64.toNat (UInt32.toUInt64 (b &&& (8388607 : UInt32)))))) * ((2 : Nat) ^ (Int.toNat (w64 ((8 : Int) * (w64 ((((UInt32.toNat (shr_u32 b (24 : Nat))) : Nat) : Int) - (3 : Int))))))))), (0 : Int))))) (Q (target_Of_enc ((Vector.replicate (4 : Nat) (0 : UInt64)), (5 : Int))))) (Q (target_Of_enc ((Vector.replicate (4 : Nat) (0 : UInt64)), (5 : Int))))))) (condP (eqb (!(decide ((b &&& (8388608 : UInt32)) = (0 : UInt32)))) false) (condP (eqb (bif false then true else (decide ((Vector.toList (uW ((uV (uW (UInt64.toNat (UInt32.toUInt64 (b &&& (8388607 : UInt32)))))) / ((2 : Nat) ^ (Int.toNat (w64 ((8 : Int) * (w64 ((3 : Int) - (((UInt32.toNat (shr_u32 b (24 : Nat))) : Nat) : Int)))))))))) = (Vector.toList (Vector.replicate (4 : Nat) (0 : UInt64)))))) false) (condP (bif false then true else (!(decide ((bitsW (uW ((uV (uW (UInt64.toNat (UInt32.toUInt64 (b &&& (8388607 : UInt32)))))) / ((2 : Nat) ^ (Int.toNat (w64 ((8 : Int) * (w64 ((3 : Int) - (((UInt32.toNat (shr_u32 b (24 : Nat))) : Nat) : Int)))))))))) = b)))) (Q (target_Of_enc ((Vector.replicate (4 : Nat) (0 : UInt64)), (5 : Int)))) (Q (target_Of_enc ((uW ((uV (uW (UInt64.toNat (UInt32.toUInt64 (b &&& (8388607 : UInt32)))))) / ((2 : Nat) ^ (Int.toNat (w64 ((8 : Int) * (w64 ((3 : Int) - (((UInt32.toNat (shr_u32 b (24 : Nat))) : Nat) : Int))))))))), (0 : Int))))) (Q (target_Of_enc ((Vector.replicate (4 : Nat) (0 : UInt64)), (5 : Int))))) (Q (target_Of_enc ((Vector.replicate (4 : Nat) (0 : UInt64)), (5 : Int))))))) := by kernel_rfl
theorem target_Of_w (b : UInt32) {r} {Q : CallOut → Prop} (h : target_Of b = some r) (hQ : Q (target_Of_enc r)) : evalFnP target_Of_C target_Of_lv target_Of_r target_Of_hs target_Of_b [.pv (.sc .u32 b)] [] Q :=
  Eq.mpr (target_Of_e b Q) (have h := (target_Of_q b).symm.trans h; ite_ok h fun hc0 h => cond_ok h (fun h => cond_ok h (fun h => ret_ok (Q := Q) (e := target_Of_enc) h hQ) (fun h => ite_ok h fun hc1 h => cond_ok h (fun h => cond_ok h (fun h => cond_ok h (fun h => ret_ok (Q := Q) (e := target_Of_enc) h hQ) (fun h => ret_ok (Q := Q) (e := target_Of_enc) h hQ)) (fun h => ret_ok (Q := Q) (e := target_Of_enc) h hQ)) (fun h => ret_ok (Q := Q) (e := target_Of_enc) h hQ))) (fun h => cond_ok h (fun h => cond_ok h (fun h => cond_ok h (fun h => ret_ok (Q := Q) (e := target_Of_enc) h hQ) (fun h => ret_ok (Q := Q) (e := target_Of_enc) h hQ)) (fun h => ret_ok (Q := Q) (e := target_Of_enc) h hQ)) (fun h => ret_ok (Q := Q) (e := target_Of_enc) h hQ)))
def target_Of_c : Ans
  | [.pv (.sc .u32 b)], [] => some (none, target_Of_enc ((ofV b, ofE b)))
  | _, _ => none
theorem target_Of_tok : TblOK Tryd.prog theG target_Of_T := .cons ⟨by kernel_rfl, big_Of_ok⟩ (.cons ⟨by kernel_rfl, big_Right_ok⟩ (.cons ⟨by kernel_rfl, big_Len_ok⟩ (.cons ⟨by kernel_rfl, big_Left_ok⟩ (.cons ⟨by kernel_rfl, target_Bits_ok⟩ (.nil)))))
theorem target_Of_ok : FnOK Tryd.prog theG 54 (unW target_Of_c) := by
  refine FnOK.ofC (T := target_Of_T) (nt := 50) (np := 0) (mv := []) (nf := false) (hs := target_Of_hs) (fn := Tryd.f54) (body := target_Of_b) target_Of_tok (by kernel_rfl) (by kernel_rfl) (by kernel_rfl) (by kernel_rfl) (c := target_Of_c) (lv := target_Of_lv) ?_
  intro xs mem p out h hp
  unfold target_Of_c at h
  split at h
  · cases h
    exact target_Of_w _ (target_Of_spec _) rfl
  · cases h
end
end Go.Proofs.YtbdajagcinfeeaaDoor.M

namespace Go.Proofs.YtbdajagcinfeeaaDoor.M
open Go
noncomputable section
set_option maxRecDepth 100000
set_option maxHeartbeats 0
noncomputable def target_Meets_T : Tbl := [(54, [], target_Of_c), (64, [], big_OfHash_c), (63, [], big_Less_c)]
noncomputable def target_Meets_C : CfgW := mkC Tryd.prog theG target_Meets_T 21 0 false
def target_Meets_lv : Nat → List Nat := fun i => []
noncomputable abbrev target_Meets_b : Code := Tryd.f46.body.getD .skip
noncomputable abbrev target_Meets_r : List ResultVar := Tryd.f46.results.toList
def target_Meets_hs : List Nat := []

def target_Meets_enc (r : Bool) : CallOut := ⟨.pv (.sc .b r), [], true, []⟩
theorem target_Meets_e (h_0 : Vector UInt8 32) (b : UInt32) (Q : CallOut → Prop) : evalFnP target_Meets_C target_Meets_lv target_Meets_r target_Meets_hs target_Meets_b [.pv (.arr .u8 32 h_0), .pv (.sc .u32 b)] [] Q =
    (condP (eqb (decide ((ofE b) = (0 : Int))) true) (Q (target_Meets_enc (bif true then (!(subB (ofV b) (hashU h_0))) else false))) (Q (target_Meets_enc false))) := by kernel_rfl
theorem target_Meets_w (h_0 : Vector UInt8 32) (b : UInt32) {Q : CallOut → Prop} (h : Q (target_Meets_enc (target_Meets h_0 b))) : evalFnP target_Meets_C target_Meets_lv target_Meets_r target_Meets_hs target_Meets_b [.pv (.arr .u8 32 h_0), .pv (.sc .u32 b)] [] Q :=
  Eq.mpr (target_Meets_e h_0 b Q) (have h := Eq.mp (congrArg (fun r => Q (target_Meets_enc r)) (target_Meets_q h_0 b)) h; cond_ok2 (Q := fun r => Q (target_Meets_enc r)) h (fun h => h) (fun h => h))
def target_Meets_c : Ans
  | [.pv (.arr .u8 32 h_0), .pv (.sc .u32 b)], [] => some (none, target_Meets_enc (meetsS h_0 b))
  | _, _ => none
theorem target_Meets_tok : TblOK Tryd.prog theG target_Meets_T := .cons ⟨by kernel_rfl, target_Of_ok⟩ (.cons ⟨by kernel_rfl, big_OfHash_ok⟩ (.cons ⟨by kernel_rfl, big_Less_ok⟩ (.nil)))
theorem target_Meets_ok : FnOK Tryd.prog theG 46 (unW target_Meets_c) := by
  refine FnOK.ofC (T := target_Meets_T) (nt := 21) (np := 0) (mv := []) (nf := false) (hs := target_Meets_hs) (fn := Tryd.f46) (body := target_Meets_b) target_Meets_tok (by kernel_rfl) (by kernel_rfl) (by kernel_rfl) (by kernel_rfl) (c := target_Meets_c) (lv := target_Meets_lv) ?_
  intro xs mem p out h hp
  unfold target_Meets_c at h
  split at h
  · cases h
    exact target_Meets_w _ _ (congrArg target_Meets_enc (target_Meets_spec _ _))
  · cases h
end
end Go.Proofs.YtbdajagcinfeeaaDoor.M
