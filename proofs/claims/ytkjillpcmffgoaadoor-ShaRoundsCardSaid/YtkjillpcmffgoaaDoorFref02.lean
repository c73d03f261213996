/- Part of the proofs: what functions of the program do: plain functions, and the walks that show it. No condition. -/
import Derived.KernelRfl
import Derived.Test.YtkjillpcmffgoaaDoorProg
import Derived.Test.YtkjillpcmffgoaaDoorLd
import Derived.Test.YtkjillpcmffgoaaDoorFref02a
import Derived.Test.YtkjillpcmffgoaaDoorSwords
import Derived.Test.YtkjillpcmffgoaaDoorSrefKp
import Derived.Test.YtkjillpcmffgoaaDoorSshaS
import Derived.Test.YtkjillpcmffgoaaDoorSshaK
set_option linter.unusedVariables false
set_option linter.unusedSimpArgs false
set_option autoImplicit false
namespace Go.Proofs.YtkjillpcmffgoaaDoor.M
open Go
noncomputable section
/-- the loop 0 of moneyer/moneyerref02.K -/
def ref02_K_h0 : Nat → Int → (Vector UInt32 64) → (List UInt64) → (Vector UInt32 64) → Option (Vector UInt32 64)
  | 0, _, _, _, _ => none
  | k + 1, i, t0, l, out => bif decide (i < (64 : Int)) then (if ((0 : Int) ≤ i) ∧ (i < (((List.length l) : Nat) : Int)) then
        if (Option.isSome (ref02_part_z (List.getD l (Int.toNat i) (0 : UInt64)) true)) = true then
          if ((0 : Int) ≤ i) ∧ (i < (64 : Int)) then
            ref02_K_h0 k (w64 (i + (1 : Int))) t0 l (Vector.setIfInBounds out (Int.toNat i) (Option.get! (ref02_part_z (List.getD l (Int.toNat i) (0 : UInt64)) true)))
          else none
        else none
      else none)
      else (some out)
theorem ref02_K_h0_q (k : Nat) (i : Int) (t0 : Vector UInt32 64) (l : List UInt64) (out : Vector UInt32 64) : ref02_K_h0 (k + 1) i t0 l out =
  (bif decide (i < (64 : Int)) then (if ((0 : Int) ≤ i) ∧ (i < (((List.length l) : Nat) : Int)) then
        if (Option.isSome (ref02_part_z (List.getD l (Int.toNat i) (0 : UInt64)) true)) = true then
          if ((0 : Int) ≤ i) ∧ (i < (64 : Int)) then
            ref02_K_h0 k (w64 (i + (1 : Int))) t0 l (Vector.setIfInBounds out (Int.toNat i) (Option.get! (ref02_part_z (List.getD l (Int.toNat i) (0 : UInt64)) true)))
          else none
        else none
      else none)
      else (some out)) := by kernel_rfl
/-- moneyer/moneyerref02.K -/
def ref02_K (k : Nat)  : Option (Vector UInt32 64) :=
  ref02_K_h0 k (0 : Int) (Vector.replicate (64 : Nat) (0 : UInt32)) (Option.get! (ref02_primes_z (64 : Int))) (Vector.replicate (64 : Nat) (0 : UInt32))
theorem ref02_K_q (k : Nat)  : ref02_K k  = (ref02_K_h0 k (0 : Int) (Vector.replicate (64 : Nat) (0 : UInt32)) (Option.get! (ref02_primes_z (64 : Int))) (Vector.replicate (64 : Nat) (0 : UInt32))) := by kernel_rfl
theorem ref02_K_spec : ∃ k, ref02_K k = some shaK := by
  show Ev (fun k => ref02_K k) _
  refine Ev.same (fun k => ref02_K_q k) ?_
  rw [ref02_primes64, show Option.get! (some _) = ref02_l64 from rfl]
  refine Ev.up (H := fun k i out => ref02_K_h0 k i (Vector.replicate 64 0) ref02_l64 out) (lo := 0) (n := 64) (step := fun i out => Vector.setIfInBounds out i (List.getD (Vector.toList shaK) i 0)) ?_ 64 0 _ (Nat.le_refl 0) rfl ?_
  · intro i out _ hi e
    refine Ev.step (fun k => ?_) e
    have hl : ref02_l64.length = 64 := rfl
    rw [ref02_K_h0_q, bif_pos (by omega), if_pos (by omega), Int.toNat_natCast, ref02_parts i hi, Option.isSome_some, if_pos rfl, if_pos (by omega), w64_id (by omega) (by omega)]
    rfl
  · refine Ev.done fun k => ?_
    rw [ref02_K_h0_q, bif_neg (by omega)]
    refine congrArg some ?_
    have gen : ∀ m, m ≤ 64 → ∀ j, j < 64 → List.getD (Vector.toList (iterUp (fun i (out : Vector UInt32 64) => Vector.setIfInBounds out i (List.getD (Vector.toList shaK) i 0)) 0 m (Vector.replicate 64 0))) j 0 = if j < m then List.getD (Vector.toList shaK) j 0 else 0 := by
      intro m
      induction m with
      | zero => intro _ j _; rw [if_neg (by omega)]; exact vget_rep _ _
      | succ m ih =>
        intro hm j hj
        rw [iterUp_succ, Nat.zero_add, vget_set _ _ _ _ _ (by omega), ih (by omega) j hj]
        by_cases h : m = j
        · rw [if_pos h, if_pos (by omega), h]
        · rw [if_neg h]
          by_cases h2 : j < m
          · rw [if_pos h2, if_pos (by omega)]
          · rw [if_neg h2, if_neg (by omega)]
    refine vext 0 fun j hj => ?_
    rw [gen 64 (Nat.le_refl _) j hj, if_pos hj]

end
end Go.Proofs.YtkjillpcmffgoaaDoor.M

namespace Go.Proofs.YtkjillpcmffgoaaDoor.M
open Go
noncomputable section
/-- moneyer/moneyerref02.turn -/
def ref02_turn (x_0 : UInt32) (n : UInt64) : UInt32 :=
  ((shr_u32 x_0 (UInt64.toNat n)) ||| (shl_u32 x_0 (UInt64.toNat ((32 : UInt64) - n))))
theorem ref02_turn_q (x_0 : UInt32) (n : UInt64) : ref02_turn x_0 n = (((shr_u32 x_0 (UInt64.toNat n)) ||| (shl_u32 x_0 (UInt64.toNat ((32 : UInt64) - n))))) := by kernel_rfl

end
end Go.Proofs.YtkjillpcmffgoaaDoor.M

namespace Go.Proofs.YtkjillpcmffgoaaDoor.M
open Go
noncomputable section
/-- the loop 10 of moneyer/moneyerref02.round -/
def ref02_round_h10 : Nat → Int → (Vector UInt32 8) → (Vector UInt32 8) → (Vector UInt32 8) → Option (Vector UInt32 8)
  | 0, _, _, _, _ => none
  | k + 1, i, s, t6, v => bif decide (i < (8 : Int)) then (if ((0 : Int) ≤ i) ∧ (i < (8 : Int)) then
        ref02_round_h10 k (w64 (i + (1 : Int))) s t6 (Vector.setIfInBounds v (Int.toNat i) ((List.getD (Vector.toList v) (Int.toNat i) (0 : UInt32)) + (List.getD (Vector.toList s) (Int.toNat i) (0 : UInt32))))
      else none)
      else (some v)
theorem ref02_round_h10_q (k : Nat) (i : Int) (s : Vector UInt32 8) (t6 : Vector UInt32 8) (v : Vector UInt32 8) : ref02_round_h10 (k + 1) i s t6 v =
  (bif decide (i < (8 : Int)) then (if ((0 : Int) ≤ i) ∧ (i < (8 : Int)) then
        ref02_round_h10 k (w64 (i + (1 : Int))) s t6 (Vector.setIfInBounds v (Int.toNat i) ((List.getD (Vector.toList v) (Int.toNat i) (0 : UInt32)) + (List.getD (Vector.toList s) (Int.toNat i) (0 : UInt32))))
      else none)
      else (some v)) := by kernel_rfl
mutual
/-- the loop 6 of moneyer/moneyerref02.round -/
def ref02_round_h6 : Nat → Int → (Vector UInt32 8) → (Vector UInt32 64) → (Vector UInt32 8) → (Vector UInt32 64) → (Vector UInt32 8) → Option (Vector UInt32 8)
  | 0, _, _, _, _, _, _ => none
  | k + 1, i, s, k_, t6, w, v => bif decide (i < (64 : Int)) then (if ((0 : Int) ≤ i) ∧ (i < (64 : Int)) then
        ref02_round_h8 k i (((((List.getD (Vector.toList v) (7 : Nat) (0 : UInt32)) + (((ref02_turn (List.getD (Vector.toList v) (4 : Nat) (0 : UInt32)) (6 : UInt64)) ^^^ (ref02_turn (List.getD (Vector.toList v) (4 : Nat) (0 : UInt32)) (11 : UInt64))) ^^^ (ref02_turn (List.getD (Vector.toList v) (4 : Nat) (0 : UInt32)) (25 : UInt64)))) + (((List.getD (Vector.toList v) (4 : Nat) (0 : UInt32)) &&& (List.getD (Vector.toList v) (5 : Nat) (0 : UInt32))) ^^^ ((~~~(List.getD (Vector.toList v) (4 : Nat) (0 : UInt32))) &&& (List.getD (Vector.toList v) (6 : Nat) (0 : UInt32))))) + (List.getD (Vector.toList k_) (Int.toNat i) (0 : UInt32))) + (List.getD (Vector.toList w) (Int.toNat i) (0 : UInt32))) ((((ref02_turn (List.getD (Vector.toList v) (0 : Nat) (0 : UInt32)) (2 : UInt64)) ^^^ (ref02_turn (List.getD (Vector.toList v) (0 : Nat) (0 : UInt32)) (13 : UInt64))) ^^^ (ref02_turn (List.getD (Vector.toList v) (0 : Nat) (0 : UInt32)) (22 : UInt64))) + ((((List.getD (Vector.toList v) (0 : Nat) (0 : UInt32)) &&& (List.getD (Vector.toList v) (1 : Nat) (0 : UInt32))) ^^^ ((List.getD (Vector.toList v) (0 : Nat) (0 : UInt32)) &&& (List.getD (Vector.toList v) (2 : Nat) (0 : UInt32)))) ^^^ ((List.getD (Vector.toList v) (1 : Nat) (0 : UInt32)) &&& (List.getD (Vector.toList v) (2 : Nat) (0 : UInt32))))) (7 : Int) s k_ t6 w v
      else none)
      else (ref02_round_h10 k (0 : Int) s t6 v)
/-- the loop 8 of moneyer/moneyerref02.round -/
def ref02_round_h8 : Nat → Int → UInt32 → UInt32 → Int → (Vector UInt32 8) → (Vector UInt32 64) → (Vector UInt32 8) → (Vector UInt32 64) → (Vector UInt32 8) → Option (Vector UInt32 8)
  | 0, _, _, _, _, _, _, _, _, _ => none
  | k + 1, i, t, u, j, s, k_, t6, w, v => bif decide ((0 : Int) < j) then (if ((0 : Int) ≤ (w64 (j - (1 : Int)))) ∧ ((w64 (j - (1 : Int))) < (8 : Int)) then
        if ((0 : Int) ≤ j) ∧ (j < (8 : Int)) then
          ref02_round_h8 k i t u (w64 (j - (1 : Int))) s k_ t6 w (Vector.setIfInBounds v (Int.toNat j) (List.getD (Vector.toList v) (Int.toNat (w64 (j - (1 : Int)))) (0 : UInt32)))
        else none
      else none)
      else (ref02_round_h6 k (w64 (i + (1 : Int))) s k_ t6 w (Vector.setIfInBounds (Vector.setIfInBounds v (4 : Nat) ((List.getD (Vector.toList v) (4 : Nat) (0 : UInt32)) + t)) (0 : Nat) (t + u)))
end
theorem ref02_round_h6_q (k : Nat) (i : Int) (s : Vector UInt32 8) (k_ : Vector UInt32 64) (t6 : Vector UInt32 8) (w : Vector UInt32 64) (v : Vector UInt32 8) : ref02_round_h6 (k + 1) i s k_ t6 w v =
  (bif decide (i < (64 : Int)) then (if ((0 : Int) ≤ i) ∧ (i < (64 : Int)) then
        ref02_round_h8 k i (((((List.getD (Vector.toList v) (7 : Nat) (0 : UInt32)) + (((ref02_turn (List.getD (Vector.toList v) (4 : Nat) (0 : UInt32)) (6 : UInt64)) ^^^ (ref02_turn (List.getD (Vector.toList v) (4 : Nat) (0 : UInt32)) (11 : UInt64))) ^^^ (ref02_turn (List.getD (Vector.toList v) (4 : Nat) (0 : UInt32)) (25 : UInt64)))) + (((List.getD (Vector.toList v) (4 : Nat) (0 : UInt32)) &&& (List.getD (Vector.toList v) (5 : Nat) (0 : UInt32))) ^^^ ((~~~(List.getD (Vector.toList v) (4 : Nat) (0 : UInt32))) &&& (List.getD (Vector.toList v) (6 : Nat) (0 : UInt32))))) + (List.getD (Vector.toList k_) (Int.toNat i) (0 : UInt32))) + (List.getD (Vector.toList w) (Int.toNat i) (0 : UInt32))) ((((ref02_turn (List.getD (Vector.toList v) (0 : Nat) (0 : UInt32)) (2 : UInt64)) ^^^ (ref02_turn (List.getD (Vector.toList v) (0 : Nat) (0 : UInt32)) (13 : UInt64))) ^^^ (ref02_turn (List.getD (Vector.toList v) (0 : Nat) (0 : UInt32)) (22 : UInt64))) + ((((List.getD (Vector.toList v) (0 : Nat) (0 : UInt32)) &&& (List.getD (Vector.toList v) (1 : Nat) (0 : UInt32))) ^^^ ((List.getD (Vector.toList v) (0 : Nat) (0 : UInt32)) &&& (List.getD (Vector.toList v) (2 : Nat) (0 : UInt32)))) ^^^ ((List.getD (Vector.toList v) (1 : Nat) (0 : UInt32)) &&& (List.getD (Vector.toList v) (2 : Nat) (0 : UInt32))))) (7 : Int) s k_ t6 w v
      else none)
      else (ref02_round_h10 k (0 : Int) s t6 v)) := by kernel_rfl
theorem ref02_round_h8_q (k : Nat) (i : Int) (t : UInt32) (u : UInt32) (j : Int) (s : Vector UInt32 8) (k_ : Vector UInt32 64) (t6 : Vector UInt32 8) (w : Vector UInt32 64) (v : Vector UInt32 8) : ref02_round_h8 (k + 1) i t u j s k_ t6 w v =
  (bif decide ((0 : Int) < j) then (if ((0 : Int) ≤ (w64 (j - (1 : Int)))) ∧ ((w64 (j - (1 : Int))) < (8 : Int)) then
        if ((0 : Int) ≤ j) ∧ (j < (8 : Int)) then
          ref02_round_h8 k i t u (w64 (j - (1 : Int))) s k_ t6 w (Vector.setIfInBounds v (Int.toNat j) (List.getD (Vector.toList v) (Int.toNat (w64 (j - (1 : Int)))) (0 : UInt32)))
        else none
      else none)
      else (ref02_round_h6 k (w64 (i + (1 : Int))) s k_ t6 w (Vector.setIfInBounds (Vector.setIfInBounds v (4 : Nat) ((List.getD (Vector.toList v) (4 : Nat) (0 : UInt32)) + t)) (0 : Nat) (t + u)))) := by kernel_rfl
/-- the loop 4 of moneyer/moneyerref02.round -/
def ref02_round_h4 : Nat → Int → (Vector UInt32 8) → (Vector UInt32 64) → (Vector UInt32 8) → (Vector UInt32 64) → Option (Vector UInt32 8)
  | 0, _, _, _, _, _ => none
  | k + 1, i, s, k_, t6, w => bif decide (i < (64 : Int)) then (if ((0 : Int) ≤ (w64 (i - (15 : Int)))) ∧ ((w64 (i - (15 : Int))) < (64 : Int)) then
        if ((0 : Int) ≤ (w64 (i - (2 : Int)))) ∧ ((w64 (i - (2 : Int))) < (64 : Int)) then
          if ((0 : Int) ≤ (w64 (i - (16 : Int)))) ∧ ((w64 (i - (16 : Int))) < (64 : Int)) then
            if ((0 : Int) ≤ (w64 (i - (7 : Int)))) ∧ ((w64 (i - (7 : Int))) < (64 : Int)) then
              if ((0 : Int) ≤ i) ∧ (i < (64 : Int)) then
                ref02_round_h4 k (w64 (i + (1 : Int))) s k_ t6 (Vector.setIfInBounds w (Int.toNat i) ((((List.getD (Vector.toList w) (Int.toNat (w64 (i - (16 : Int)))) (0 : UInt32)) + (((ref02_turn (List.getD (Vector.toList w) (Int.toNat (w64 (i - (15 : Int)))) (0 : UInt32)) (7 : UInt64)) ^^^ (ref02_turn (List.getD (Vector.toList w) (Int.toNat (w64 (i - (15 : Int)))) (0 : UInt32)) (18 : UInt64))) ^^^ (shr_u32 (List.getD (Vector.toList w) (Int.toNat (w64 (i - (15 : Int)))) (0 : UInt32)) (3 : Nat)))) + (List.getD (Vector.toList w) (Int.toNat (w64 (i - (7 : Int)))) (0 : UInt32))) + (((ref02_turn (List.getD (Vector.toList w) (Int.toNat (w64 (i - (2 : Int)))) (0 : UInt32)) (17 : UInt64)) ^^^ (ref02_turn (List.getD (Vector.toList w) (Int.toNat (w64 (i - (2 : Int)))) (0 : UInt32)) (19 : UInt64))) ^^^ (shr_u32 (List.getD (Vector.toList w) (Int.toNat (w64 (i - (2 : Int)))) (0 : UInt32)) (10 : Nat)))))
              else none
            else none
          else none
        else none
      else none)
      else (ref02_round_h6 k (0 : Int) s k_ t6 w s)
theorem ref02_round_h4_q (k : Nat) (i : Int) (s : Vector UInt32 8) (k_ : Vector UInt32 64) (t6 : Vector UInt32 8) (w : Vector UInt32 64) : ref02_round_h4 (k + 1) i s k_ t6 w =
  (bif decide (i < (64 : Int)) then (if ((0 : Int) ≤ (w64 (i - (15 : Int)))) ∧ ((w64 (i - (15 : Int))) < (64 : Int)) then
        if ((0 : Int) ≤ (w64 (i - (2 : Int)))) ∧ ((w64 (i - (2 : Int))) < (64 : Int)) then
          if ((0 : Int) ≤ (w64 (i - (16 : Int)))) ∧ ((w64 (i - (16 : Int))) < (64 : Int)) then
            if ((0 : Int) ≤ (w64 (i - (7 : Int)))) ∧ ((w64 (i - (7 : Int))) < (64 : Int)) then
              if ((0 : Int) ≤ i) ∧ (i < (64 : Int)) then
                ref02_round_h4 k (w64 (i + (1 : Int))) s k_ t6 (Vector.setIfInBounds w (Int.toNat i) ((((List.getD (Vector.toList w) (Int.toNat (w64 (i - (16 : Int)))) (0 : UInt32)) + (((ref02_turn (List.getD (Vector.toList w) (Int.toNat (w64 (i - (15 : Int)))) (0 : UInt32)) (7 : UInt64)) ^^^ (ref02_turn (List.getD (Vector.toList w) (Int.toNat (w64 (i - (15 : Int)))) (0 : UInt32)) (18 : UInt64))) ^^^ (shr_u32 (List.getD (Vector.toList w) (Int.toNat (w64 (i - (15 : Int)))) (0 : UInt32)) (3 : Nat)))) + (List.getD (Vector.toList w) (Int.toNat (w64 (i - (7 : Int)))) (0 : UInt32))) + (((ref02_turn (List.getD (Vector.toList w) (Int.toNat (w64 (i - (2 : Int)))) (0 : UInt32)) (17 : UInt64)) ^^^ (ref02_turn (List.getD (Vector.toList w) (Int.toNat (w64 (i - (2 : Int)))) (0 : UInt32)) (19 : UInt64))) ^^^ (shr_u32 (List.getD (Vector.toList w) (Int.toNat (w64 (i - (2 : Int)))) (0 : UInt32)) (10 : Nat)))))
              else none
            else none
          else none
        else none
      else none)
      else (ref02_round_h6 k (0 : Int) s k_ t6 w s)) := by kernel_rfl
mutual
/-- the loop 0 of moneyer/moneyerref02.round -/
def ref02_round_h0 : Nat → (List UInt8) → Int → (Vector UInt32 8) → (Vector UInt32 64) → (Vector UInt32 8) → (Vector UInt32 64) → Option (Vector UInt32 8)
  | 0, _, _, _, _, _, _ => none
  | k + 1, b, i, s, k_, t6, w => bif decide (i < (16 : Int)) then (ref02_round_h2 k b i (0 : Int) s k_ t6 w)
      else (ref02_round_h4 k (16 : Int) s k_ t6 w)
/-- the loop 2 of moneyer/moneyerref02.round -/
def ref02_round_h2 : Nat → (List UInt8) → Int → Int → (Vector UInt32 8) → (Vector UInt32 64) → (Vector UInt32 8) → (Vector UInt32 64) → Option (Vector UInt32 8)
  | 0, _, _, _, _, _, _, _ => none
  | k + 1, b, i, j, s, k_, t6, w => bif decide (j < (4 : Int)) then (if ((0 : Int) ≤ i) ∧ (i < (64 : Int)) then
        if ((0 : Int) ≤ (w64 ((w64 ((4 : Int) * i)) + j))) ∧ ((w64 ((w64 ((4 : Int) * i)) + j)) < (((List.length b) : Nat) : Int)) then
          ref02_round_h2 k b i (w64 (j + (1 : Int))) s k_ t6 (Vector.setIfInBounds w (Int.toNat i) (((256 : UInt32) * (List.getD (Vector.toList w) (Int.toNat i) (0 : UInt32))) + (UInt8.toUInt32 (List.getD b (Int.toNat (w64 ((w64 ((4 : Int) * i)) + j))) (0 : UInt8)))))
        else none
      else none)
      else (ref02_round_h0 k b (w64 (i + (1 : Int))) s k_ t6 w)
end
theorem ref02_round_h0_q (k : Nat) (b : List UInt8) (i : Int) (s : Vector UInt32 8) (k_ : Vector UInt32 64) (t6 : Vector UInt32 8) (w : Vector UInt32 64) : ref02_round_h0 (k + 1) b i s k_ t6 w =
  (bif decide (i < (16 : Int)) then (ref02_round_h2 k b i (0 : Int) s k_ t6 w)
      else (ref02_round_h4 k (16 : Int) s k_ t6 w)) := by kernel_rfl
theorem ref02_round_h2_q (k : Nat) (b : List UInt8) (i : Int) (j : Int) (s : Vector UInt32 8) (k_ : Vector UInt32 64) (t6 : Vector UInt32 8) (w : Vector UInt32 64) : ref02_round_h2 (k + 1) b i j s k_ t6 w =
  (bif decide (j < (4 : Int)) then (if ((0 : Int) ≤ i) ∧ (i < (64 : Int)) then
        if ((0 : Int) ≤ (w64 ((w64 ((4 : Int) * i)) + j))) ∧ ((w64 ((w64 ((4 : Int) * i)) + j)) < (((List.length b) : Nat) : Int)) then
          ref02_round_h2 k b i (w64 (j + (1 : Int))) s k_ t6 (Vector.setIfInBounds w (Int.toNat i) (((256 : UInt32) * (List.getD (Vector.toList w) (Int.toNat i) (0 : UInt32))) + (UInt8.toUInt32 (List.getD b (Int.toNat (w64 ((w64 ((4 : Int) * i)) + j))) (0 : UInt8)))))
        else none
      else none)
      else (ref02_round_h0 k b (w64 (i + (1 : Int))) s k_ t6 w)) := by kernel_rfl
/-- moneyer/moneyerref02.round -/
def ref02_round (k : Nat) (s : Vector UInt32 8) (b : List UInt8) (k_2 : Vector UInt32 64) : Option (Vector UInt32 8) :=
  ref02_round_h0 k b (0 : Int) s k_2 (Vector.replicate (8 : Nat) (0 : UInt32)) (Vector.replicate (64 : Nat) (0 : UInt32))
theorem ref02_round_q (k : Nat) (s : Vector UInt32 8) (b : List UInt8) (k_2 : Vector UInt32 64) : ref02_round k s b k_2 = (ref02_round_h0 k b (0 : Int) s k_2 (Vector.replicate (8 : Nat) (0 : UInt32)) (Vector.replicate (64 : Nat) (0 : UInt32))) := by kernel_rfl
theorem ref02_turn_eq (x : UInt32) : ref02_turn x 2 = shT x 2 ∧ ref02_turn x 6 = shT x 6 ∧ ref02_turn x 7 = shT x 7 ∧ ref02_turn x 11 = shT x 11 ∧ ref02_turn x 13 = shT x 13 ∧ ref02_turn x 17 = shT x 17 ∧ ref02_turn x 18 = shT x 18 ∧ ref02_turn x 19 = shT x 19 ∧ ref02_turn x 22 = shT x 22 ∧ ref02_turn x 25 = shT x 25 := by
  refine ⟨?_, ?_, ?_, ?_, ?_, ?_, ?_, ?_, ?_, ?_⟩ <;> rfl

theorem shMix_eq (x : UInt32) (y : UInt8) : (256 : UInt32) * x + y.toUInt32 = shMix x y := by
  unfold shMix shl_u32
  apply UInt32.toNat_inj.1
  rw [UInt32.toNat_add, UInt32.toNat_mul, UInt32.toNat_or, UInt32.toNat_ofNat', UInt8.toNat_toUInt32]
  have hy : y.toNat < 2 ^ 8 := y.toNat_lt
  have hx : x.toNat < 2 ^ 32 := x.toNat_lt
  have e : (256 : UInt32).toNat = 256 := by decide
  rw [e]
  rw [show min 8 32 = 8 from rfl]
  have h1 : x.toNat * 2 ^ 8 % 2 ^ 32 = 2 ^ 8 * (x.toNat % 2 ^ 24) := by omega
  rw [h1, ← Nat.two_pow_add_eq_or_of_lt hy]
  omega
theorem u32_right_comm (a b c : UInt32) : a + b + c = a + c + b := by rw [UInt32.add_assoc, UInt32.add_comm b c, ← UInt32.add_assoc]

theorem ref02_round_l10 (s t6 v : Vector UInt32 8) : Ev (fun k => ref02_round_h10 k 0 s t6 v) (shPlus s v) := by
  refine Ev.up (H := fun k i v => ref02_round_h10 k i s t6 v) (lo := 0) (n := 8) (step := fun i (a : Vector UInt32 8) => Vector.setIfInBounds a i (List.getD (Vector.toList a) i 0 + List.getD (Vector.toList s) i 0)) ?_ 8 0 v (Nat.le_refl 0) rfl ?_
  · intro i v _ hi e
    refine Ev.step (fun k => ?_) e
    rw [ref02_round_h10_q, bif_pos (by omega), if_pos (by omega), w64_id (by omega) (by omega), Int.toNat_natCast]
  · refine Ev.done fun k => ?_
    rw [ref02_round_h10_q, bif_neg (by omega), shPlus_loop]
    refine congrArg some (vext 0 fun j hj => ?_)
    rw [show List.getD (Vector.toList (shPlus v s)) j 0 = shG v j + shG s j from shG_ofFn (fun i => shG v i + shG s i) j hj,
      show List.getD (Vector.toList (shPlus s v)) j 0 = shG s j + shG v j from shG_ofFn (fun i => shG s i + shG v i) j hj, UInt32.add_comm]

/-- moved on by one -/
def ref02_shift (j : Nat) (v : Vector UInt32 8) : Vector UInt32 8 := Vector.setIfInBounds v (8 - 1 - j) (List.getD (Vector.toList v) (8 - 1 - j - 1) 0)
theorem ref02_round_l8 {r : Vector UInt32 8} (i : Nat) (hi : i < 64) (t u : UInt32) (s t6 : Vector UInt32 8) (kt w : Vector UInt32 64) (v : Vector UInt32 8)
    (e : Ev (fun k => ref02_round_h6 k ((i : Int) + 1) s kt t6 w #v[t + u, shG v 0, shG v 1, shG v 2, shG v 3 + t, shG v 4, shG v 5, shG v 6]) r) : Ev (fun k => ref02_round_h8 k i t u 7 s kt t6 w v) r := by
  have st : ∀ (j : Nat) (v : Vector UInt32 8), 0 < j → j ≤ 7 → Ev (fun k => ref02_round_h8 k i t u ((j : Int) - 1) s kt t6 w (Vector.setIfInBounds v j (List.getD (Vector.toList v) (j - 1) 0))) r → Ev (fun k => ref02_round_h8 k i t u j s kt t6 w v) r := by
    intro j v h0 h7 e
    refine Ev.step (fun k => ?_) e
    have a1 : w64 ((j : Int) - 1) = ((j - 1 : Nat) : Int) := by rw [w64_id (by omega) (by omega)]; omega
    rw [ref02_round_h8_q, bif_pos (by omega), a1, if_pos (by omega), if_pos (by omega)]
    simp only [Int.toNat_natCast]
    rw [show ((j - 1 : Nat) : Int) = (j : Int) - 1 by omega]
  refine st 7 v (by omega) (by omega) (st 6 _ (by omega) (by omega) (st 5 _ (by omega) (by omega) (st 4 _ (by omega) (by omega) (st 3 _ (by omega) (by omega) (st 2 _ (by omega) (by omega) (st 1 _ (by omega) (by omega) ?_))))))
  refine Ev.step (fun k => ?_) e
  rw [ref02_round_h8_q, bif_neg (by omega), w64_id (by omega) (by omega)]
  refine congrArg (fun y => ref02_round_h6 k ((i : Int) + 1) s kt t6 w y) ?_
  refine vext 0 fun j hj => ?_
  have : j = 0 ∨ j = 1 ∨ j = 2 ∨ j = 3 ∨ j = 4 ∨ j = 5 ∨ j = 6 ∨ j = 7 := by omega
  rcases this with h | h | h | h | h | h | h | h <;> subst h <;> simp [vget_set, shG]

theorem ref02_round_l6 (s t6 : Vector UInt32 8) (kt w : Vector UInt32 64) (v : Vector UInt32 8) : Ev (fun k => ref02_round_h6 k 0 s kt t6 w v) (shPlus s (iterUp (shStep kt w) 0 64 v)) := by
  refine Ev.up (H := fun k i v => ref02_round_h6 k i s kt t6 w v) (lo := 0) (n := 64) (step := shStep kt w) ?_ 64 0 v (Nat.le_refl 0) rfl ?_
  · intro i v _ hi e
    refine Ev.step (fun k => ?_) (ref02_round_l8 i hi (shT1 kt w i v) (shU1 v) s t6 kt w v e)
    rw [ref02_round_h6_q, bif_pos (by omega), if_pos (by omega), Int.toNat_natCast]
    have t := fun x => ref02_turn_eq x
    simp only [(t _).1, (t _).2.1, (t _).2.2.1, (t _).2.2.2.1, (t _).2.2.2.2.1, (t _).2.2.2.2.2.1, (t _).2.2.2.2.2.2.1, (t _).2.2.2.2.2.2.2.1, (t _).2.2.2.2.2.2.2.2.1, (t _).2.2.2.2.2.2.2.2.2]
    rfl
  · refine Ev.step (fun k => ?_) (ref02_round_l10 s t6 _)
    rw [ref02_round_h6_q, bif_neg (by omega)]

theorem ref02_round_raw (s : Vector UInt32 8) (b : List UInt8) (kt : Vector UInt32 64) (hb : 64 ≤ b.length) : ∃ k, ref02_round k s b kt = some (shRound kt s (fun i => List.getD b i 0)) := by
  show Ev (fun k => ref02_round k s b kt) _
  refine Ev.same (fun k => ref02_round_q k s b kt) ?_
  let t6 : Vector UInt32 8 := Vector.replicate 8 0
  let B : Nat → UInt8 := fun i => List.getD b i 0
  have h4 : Ev (fun k => ref02_round_h4 k ((16 : Nat) : Int) s kt t6 (iterUp (shFill B) 0 16 (Vector.replicate 64 0))) (shRound kt s B) := by
    have : Ev (fun k => ref02_round_h4 k ((64 : Nat) : Int) s kt t6 (shW B)) (shRound kt s B) := by
      refine Ev.step (fun k => ?_) (ref02_round_l6 s t6 kt (shW B) s)
      rw [ref02_round_h4_q, bif_neg (by omega)]
    refine Ev.up (H := fun k i w => ref02_round_h4 k i s kt t6 w) (lo := 16) (n := 64) (step := fun i w => Vector.setIfInBounds w i (shSched w i)) ?_ 48 16 _ (Nat.le_refl 16) rfl this
    intro i w h16 hi e
    refine Ev.step (fun k => ?_) e
    have a1 : w64 ((i : Int) - 15) = ((i - 15 : Nat) : Int) := by rw [w64_id (by omega) (by omega)]; omega
    have a2 : w64 ((i : Int) - 2) = ((i - 2 : Nat) : Int) := by rw [w64_id (by omega) (by omega)]; omega
    have a3 : w64 ((i : Int) - 16) = ((i - 16 : Nat) : Int) := by rw [w64_id (by omega) (by omega)]; omega
    have a4 : w64 ((i : Int) - 7) = ((i - 7 : Nat) : Int) := by rw [w64_id (by omega) (by omega)]; omega
    rw [ref02_round_h4_q, bif_pos (by omega), a1, a2, a3, a4, if_pos (by omega), if_pos (by omega), if_pos (by omega), if_pos (by omega), if_pos (by omega), w64_id (by omega) (by omega)]
    simp only [Int.toNat_natCast]
    have t := fun x => ref02_turn_eq x
    simp only [(t _).1, (t _).2.1, (t _).2.2.1, (t _).2.2.2.1, (t _).2.2.2.2.1, (t _).2.2.2.2.2.1, (t _).2.2.2.2.2.2.1, (t _).2.2.2.2.2.2.2.1, (t _).2.2.2.2.2.2.2.2.1, (t _).2.2.2.2.2.2.2.2.2]
    refine congrArg (fun y => ref02_round_h4 k ((i : Int) + 1) s kt t6 (Vector.setIfInBounds w i y)) ?_
    unfold shSched
    rw [u32_right_comm (List.getD (Vector.toList w) (i - 16) 0)]
  refine Ev.up (H := fun k i w => ref02_round_h0 k b i s kt t6 w) (lo := 0) (n := 16) (step := shFill B) ?_ 16 0 _ (Nat.le_refl 0) rfl ?_
  · intro i w _ hi e
    refine Ev.step (g := fun k => ref02_round_h2 k b i 0 s kt t6 w) (fun k => ?_) ?_
    · rw [ref02_round_h0_q, bif_pos (by omega)]
    · refine Ev.up (H := fun k j w => ref02_round_h2 k b i j s kt t6 w) (lo := 0) (n := 4) (step := fun j w => Vector.setIfInBounds w i (shMix (List.getD (Vector.toList w) i 0) (B (4 * i + j)))) ?_ 4 0 w (Nat.le_refl 0) rfl ?_
      · intro j w _ hj e
        refine Ev.step (fun k => ?_) e
        have a1 : w64 (4 * (i : Int)) = ((4 * i : Nat) : Int) := by rw [w64_id (by omega) (by omega)]; omega
        have a2 : w64 (((4 * i : Nat) : Int) + (j : Int)) = ((4 * i + j : Nat) : Int) := by rw [w64_id (by omega) (by omega)]; omega
        rw [ref02_round_h2_q, bif_pos (by omega), a1, a2, if_pos (by omega), if_pos (by omega), w64_id (by omega) (by omega)]
        simp only [Int.toNat_natCast, shMix_eq]
        rfl
      · refine Ev.step (fun k => ?_) e
        rw [ref02_round_h2_q, bif_neg (by omega), w64_id (by omega) (by omega)]
        rfl
  · refine Ev.step (fun k => ?_) h4
    rw [ref02_round_h0_q, bif_neg (by omega)]
    rfl
theorem ref02_round_spec (s : Vector UInt32 8) (b : List UInt8) (kt : Vector UInt32 64) (hb : 64 ≤ b.length) : ∃ k, ref02_round k s b kt = some (shaRound kt s (fun i => List.getD b i 0)) := by
  rw [shaRound_eq]; exact ref02_round_raw s b kt hb

end
end Go.Proofs.YtkjillpcmffgoaaDoor.M

namespace Go.Proofs.YtkjillpcmffgoaaDoor.M
open Go
noncomputable section
/-- the loop 0 of moneyer/moneyerref02.Round -/
def ref02_Round_h0 : Nat → Int → (Vector UInt32 8) → (Vector UInt8 64) → (Vector UInt32 8) → (List UInt8) → Option (Vector UInt32 8)
  | 0, _, _, _, _, _ => none
  | k + 1, i, s, b, t4, l => bif decide (i < (64 : Int)) then (if ((0 : Int) ≤ i) ∧ (i < (64 : Int)) then
        if (((List.length (l ++ ([(List.getD (Vector.toList b) (Int.toNat i) (0 : UInt8))] : List UInt8))) * (1 : Nat)) ≤ (70368744177664 : Nat)) ∧ ((List.length (l ++ ([(List.getD (Vector.toList b) (Int.toNat i) (0 : UInt8))] : List UInt8))) ≤ (70368744177664 : Nat)) then
          ref02_Round_h0 k (w64 (i + (1 : Int))) s b t4 (l ++ ([(List.getD (Vector.toList b) (Int.toNat i) (0 : UInt8))] : List UInt8))
        else none
      else none)
      else (if (64 : Nat) ≤ (List.length l) then
        some (shaRound shaK s (fun (z6 : Nat) => (List.getD l z6 (0 : UInt8))))
      else none)
theorem ref02_Round_h0_q (k : Nat) (i : Int) (s : Vector UInt32 8) (b : Vector UInt8 64) (t4 : Vector UInt32 8) (l : List UInt8) : ref02_Round_h0 (k + 1) i s b t4 l =
  (bif decide (i < (64 : Int)) then (if ((0 : Int) ≤ i) ∧ (i < (64 : Int)) then
        if (((List.length (l ++ ([(List.getD (Vector.toList b) (Int.toNat i) (0 : UInt8))] : List UInt8))) * (1 : Nat)) ≤ (70368744177664 : Nat)) ∧ ((List.length (l ++ ([(List.getD (Vector.toList b) (Int.toNat i) (0 : UInt8))] : List UInt8))) ≤ (70368744177664 : Nat)) then
          ref02_Round_h0 k (w64 (i + (1 : Int))) s b t4 (l ++ ([(List.getD (Vector.toList b) (Int.toNat i) (0 : UInt8))] : List UInt8))
        else none
      else none)
      else (if (64 : Nat) ≤ (List.length l) then
        some (shaRound shaK s (fun (z6 : Nat) => (List.getD l z6 (0 : UInt8))))
      else none)) := by kernel_rfl
/-- moneyer/moneyerref02.Round -/
def ref02_Round (k : Nat) (s : Vector UInt32 8) (b : Vector UInt8 64) : Option (Vector UInt32 8) :=
  ref02_Round_h0 k (0 : Int) s b (Vector.replicate (8 : Nat) (0 : UInt32)) ([] : List UInt8)
theorem ref02_Round_q (k : Nat) (s : Vector UInt32 8) (b : Vector UInt8 64) : ref02_Round k s b = (ref02_Round_h0 k (0 : Int) s b (Vector.replicate (8 : Nat) (0 : UInt32)) ([] : List UInt8)) := by kernel_rfl
theorem ref02_Round_spec (s : Vector UInt32 8) (b : Vector UInt8 64) : ∃ k, ref02_Round k s b = some (shaRound shaK s (fun i => List.getD (Vector.toList b) i 0)) := by
  show Ev (fun k => ref02_Round k s b) _
  refine Ev.same (fun k => ref02_Round_q k s b) ?_
  have e0 : ([] : List UInt8) = (Vector.toList b).take 0 := rfl
  rw [e0]
  have gen : ∀ m i, i + m = 64 → Ev (fun k => ref02_Round_h0 k ((i : Nat) : Int) s b (Vector.replicate 8 0) ((Vector.toList b).take i)) (shaRound shaK s (fun i => List.getD (Vector.toList b) i 0)) := by
    intro m
    induction m with
    | zero =>
      intro i hi
      refine Ev.done fun k => ?_
      rw [ref02_Round_h0_q, bif_neg (by omega), if_pos (by simp; omega), List.take_of_length_le (by simp; omega)]
    | succ m ih =>
      intro i hi
      refine Ev.step (fun k => ?_) (ih (i + 1) (by omega))
      have h1 : i < (Vector.toList b).length := by simp; omega
      have e : (Vector.toList b).take i ++ [List.getD (Vector.toList b) (Int.toNat ((i : Nat) : Int)) 0] = (Vector.toList b).take (i + 1) := by
        rw [List.take_succ_eq_append_getElem h1, Int.toNat_natCast]
        have h2 : i < 64 := by omega
        simp [List.getD, h2]
      rw [ref02_Round_h0_q, bif_pos (by omega), if_pos (by omega), e, if_pos (by simp; omega), w64_id (by omega) (by omega)]
      rfl
  exact gen 64 0 rfl

end
end Go.Proofs.YtkjillpcmffgoaaDoor.M

namespace Go.Proofs.YtkjillpcmffgoaaDoor.M
open Go
noncomputable section
/-- the loop 0 of moneyer/moneyerref02.Begin -/
def ref02_Begin_h0 : Nat → Int → (Vector UInt32 8) → (List UInt64) → (Vector UInt32 8) → Option (Vector UInt32 8)
  | 0, _, _, _, _ => none
  | k + 1, i, t0, l, out => bif decide (i < (8 : Int)) then (if ((0 : Int) ≤ i) ∧ (i < (((List.length l) : Nat) : Int)) then
        if (Option.isSome (ref02_part_z (List.getD l (Int.toNat i) (0 : UInt64)) false)) = true then
          if ((0 : Int) ≤ i) ∧ (i < (8 : Int)) then
            ref02_Begin_h0 k (w64 (i + (1 : Int))) t0 l (Vector.setIfInBounds out (Int.toNat i) (Option.get! (ref02_part_z (List.getD l (Int.toNat i) (0 : UInt64)) false)))
          else none
        else none
      else none)
      else (some out)
theorem ref02_Begin_h0_q (k : Nat) (i : Int) (t0 : Vector UInt32 8) (l : List UInt64) (out : Vector UInt32 8) : ref02_Begin_h0 (k + 1) i t0 l out =
  (bif decide (i < (8 : Int)) then (if ((0 : Int) ≤ i) ∧ (i < (((List.length l) : Nat) : Int)) then
        if (Option.isSome (ref02_part_z (List.getD l (Int.toNat i) (0 : UInt64)) false)) = true then
          if ((0 : Int) ≤ i) ∧ (i < (8 : Int)) then
            ref02_Begin_h0 k (w64 (i + (1 : Int))) t0 l (Vector.setIfInBounds out (Int.toNat i) (Option.get! (ref02_part_z (List.getD l (Int.toNat i) (0 : UInt64)) false)))
          else none
        else none
      else none)
      else (some out)) := by kernel_rfl
/-- moneyer/moneyerref02.Begin -/
def ref02_Begin (k : Nat)  : Option (Vector UInt32 8) :=
  ref02_Begin_h0 k (0 : Int) (Vector.replicate (8 : Nat) (0 : UInt32)) (Option.get! (ref02_primes_z (8 : Int))) (Vector.replicate (8 : Nat) (0 : UInt32))
theorem ref02_Begin_q (k : Nat)  : ref02_Begin k  = (ref02_Begin_h0 k (0 : Int) (Vector.replicate (8 : Nat) (0 : UInt32)) (Option.get! (ref02_primes_z (8 : Int))) (Vector.replicate (8 : Nat) (0 : UInt32))) := by kernel_rfl
@[irreducible] def ref02_Begin_z  : Option (Vector UInt32 8) := ref02_Begin 1000 
theorem ref02_Begin_z_eq  : ref02_Begin_z  = ref02_Begin 1000  := by kernel_rfl

end
end Go.Proofs.YtkjillpcmffgoaaDoor.M

namespace Go.Proofs.YtkjillpcmffgoaaDoor.M
open Go
noncomputable section
set_option maxRecDepth 100000
noncomputable def ref02_K_T : Tbl := [(53, [], ref02_primes_c), (54, [], ref02_part_c)]
noncomputable def ref02_K_C : CfgW := mkC Tryd.prog theG ref02_K_T 17 0
def ref02_K_lv : Nat → List Nat := fun i => bif Nat.beq i 0 then [0, 1, 2, 3] else []
noncomputable abbrev ref02_K_b : Code := Tryd.f52.body.getD .skip
noncomputable abbrev ref02_K_r : List ResultVar := Tryd.f52.results.toList
def ref02_K_hs : List Nat := []

def ref02_K_enc (r : Vector UInt32 64) : CallOut := ⟨.pv (.arr .u32 64 r), [], true, []⟩
def ref02_K_s0 (i : Int) (t0 : Vector UInt32 64) (l : List UInt64) (out : Vector UInt32 64) : St := ⟨[(0, .p 60000 []), (1, .o 60001), (2, .p 60002 []), (3, .pv (.sc .i i))], [(60000, .box (.pv (.arr .u32 64 t0))), (60001, .row (.s .u64 l) false), (60002, .box (.pv (.arr .u32 64 out)))]⟩
theorem ref02_K_g0 (i : Int) (t0 : Vector UInt32 64) (l : List UInt64) (out : Vector UInt32 64) (Q : CallOut → Prop) : headRound ref02_K_C ref02_K_lv [true, true, true, false, true, false] ref02_K_b (ref02_K_s0 i t0 l out) (fnK ref02_K_C ref02_K_r ref02_K_hs Q) =
    (condP (decide (i < (64 : Int))) ((((0 : Int) ≤ i) ∧ (i < (((List.length l) : Nat) : Int))) ∧ (((Option.isSome (ref02_part_z (List.getD l (Int.toNat i) (0 : UInt64)) true)) = true) ∧ ((((0 : Int) ≤ i) ∧ (i < (64 : Int))) ∧ (headP ref02_K_C ref02_K_lv [true, true, true, false, true, false] ref02_K_b (ref02_K_s0 (w64 (i + (1 : Int))) t0 l (Vector.setIfInBounds out (Int.toNat i) (Option.get! (ref02_part_z (List.getD l (Int.toNat i) (0 : UInt64)) true)))) (fnK ref02_K_C ref02_K_r ref02_K_hs Q))))) (Q (ref02_K_enc out))) := by kernel_rfl
theorem ref02_K_k0 {r : Vector UInt32 64} {Q : CallOut → Prop} (hQ : Q (ref02_K_enc r)) : ∀ k : Nat, (∀ (i : Int) (t0 : Vector UInt32 64) (l : List UInt64) (out : Vector UInt32 64), ref02_K_h0 k i t0 l out = some r → headP ref02_K_C ref02_K_lv [true, true, true, false, true, false] ref02_K_b (ref02_K_s0 i t0 l out) (fnK ref02_K_C ref02_K_r ref02_K_hs Q))
  | 0 => fun _ _ _ _ h => no_ok h
  | k + 1 => fun i t0 l out h => headP_step (Eq.mpr (ref02_K_g0 i t0 l out Q) (have h := (ref02_K_h0_q k i t0 l out).symm.trans h; cond_ok h (fun h => ite_ok h fun hc0 h => ite_ok h fun hc1 h => ite_ok h fun hc2 h => (ref02_K_k0 hQ k) _ _ _ _ h) (fun h => ret_ok (Q := Q) (e := ref02_K_enc) h hQ)))
theorem ref02_K_e  (Q : CallOut → Prop) : evalFnP ref02_K_C ref02_K_lv ref02_K_r ref02_K_hs ref02_K_b [] [] Q =
    (((Option.isSome (ref02_primes_z (64 : Int))) = true) ∧ (headP ref02_K_C ref02_K_lv [true, true, true, false, true, false] ref02_K_b (ref02_K_s0 (0 : Int) (Vector.replicate (64 : Nat) (0 : UInt32)) (Option.get! (ref02_primes_z (64 : Int))) (Vector.replicate (64 : Nat) (0 : UInt32))) (fnK ref02_K_C ref02_K_r ref02_K_hs Q))) := by kernel_rfl
theorem ref02_K_w {k : Nat}  {r} {Q : CallOut → Prop} (h : ref02_K k  = some r) (hQ : Q (ref02_K_enc r)) : evalFnP ref02_K_C ref02_K_lv ref02_K_r ref02_K_hs ref02_K_b [] [] Q :=
  Eq.mpr (ref02_K_e  Q) (have h := (ref02_K_q k ).symm.trans h; ⟨by decide +kernel, (ref02_K_k0 hQ _) _ _ _ _ h⟩)
def ref02_K_c : Ans
  | [], [] => some (none, ref02_K_enc (shaK))
  | _, _ => none
theorem ref02_K_tok : TblOK Tryd.prog theG ref02_K_T := .cons ⟨by kernel_rfl, ref02_primes_ok⟩ (.cons ⟨by kernel_rfl, ref02_part_ok⟩ (.nil))
theorem ref02_K_ok : FnOK Tryd.prog theG 52 (unW ref02_K_c) := by
  refine FnOK.ofC (T := ref02_K_T) (nt := 17) (np := 0) (hs := ref02_K_hs) (fn := Tryd.f52) (body := ref02_K_b) ref02_K_tok (by kernel_rfl) (by kernel_rfl) (by kernel_rfl) (by kernel_rfl) (c := ref02_K_c) (lv := ref02_K_lv) ?_
  intro xs mem p out h hp
  unfold ref02_K_c at h
  split at h
  · cases h
    obtain ⟨k, hk⟩ := ref02_K_spec
    exact ref02_K_w  hk rfl
  · cases h
end
end Go.Proofs.YtkjillpcmffgoaaDoor.M

namespace Go.Proofs.YtkjillpcmffgoaaDoor.M
open Go
noncomputable section
set_option maxRecDepth 100000
noncomputable def ref02_turn_T : Tbl := []
noncomputable def ref02_turn_C : CfgW := mkC Tryd.prog theG ref02_turn_T 13 0
def ref02_turn_lv : Nat → List Nat := fun i => []
noncomputable abbrev ref02_turn_b : Code := Tryd.f61.body.getD .skip
noncomputable abbrev ref02_turn_r : List ResultVar := Tryd.f61.results.toList
def ref02_turn_hs : List Nat := []

def ref02_turn_enc (r : UInt32) : CallOut := ⟨.pv (.sc .u32 r), [], true, []⟩
theorem ref02_turn_e (x_0 : UInt32) (n : UInt64) (Q : CallOut → Prop) : evalFnP ref02_turn_C ref02_turn_lv ref02_turn_r ref02_turn_hs ref02_turn_b [.pv (.sc .u32 x_0), .pv (.sc .u64 n)] [] Q =
    (Q (ref02_turn_enc ((shr_u32 x_0 (UInt64.toNat n)) ||| (shl_u32 x_0 (UInt64.toNat ((32 : UInt64) - n)))))) := by kernel_rfl
theorem ref02_turn_w (x_0 : UInt32) (n : UInt64) {Q : CallOut → Prop} (h : Q (ref02_turn_enc (ref02_turn x_0 n))) : evalFnP ref02_turn_C ref02_turn_lv ref02_turn_r ref02_turn_hs ref02_turn_b [.pv (.sc .u32 x_0), .pv (.sc .u64 n)] [] Q :=
  Eq.mpr (ref02_turn_e x_0 n Q) (have h := Eq.mp (congrArg (fun r => Q (ref02_turn_enc r)) (ref02_turn_q x_0 n)) h; h)
def ref02_turn_c : Ans
  | [.pv (.sc .u32 x_0), .pv (.sc .u64 n)], [] => some (none, ref02_turn_enc (ref02_turn x_0 n))
  | _, _ => none
theorem ref02_turn_tok : TblOK Tryd.prog theG ref02_turn_T := .nil
theorem ref02_turn_ok : FnOK Tryd.prog theG 61 (unW ref02_turn_c) := by
  refine FnOK.ofC (T := ref02_turn_T) (nt := 13) (np := 0) (hs := ref02_turn_hs) (fn := Tryd.f61) (body := ref02_turn_b) ref02_turn_tok (by kernel_rfl) (by kernel_rfl) (by kernel_rfl) (by kernel_rfl) (c := ref02_turn_c) (lv := ref02_turn_lv) ?_
  intro xs mem p out h hp
  unfold ref02_turn_c at h
  split at h
  · cases h
    exact ref02_turn_w _ _ rfl
  · cases h
end
end Go.Proofs.YtkjillpcmffgoaaDoor.M

namespace Go.Proofs.YtkjillpcmffgoaaDoor.M
open Go
noncomputable section
set_option maxRecDepth 100000
noncomputable def ref02_round_T : Tbl := [(61, [], ref02_turn_c)]
noncomputable def ref02_round_C : CfgW := mkC Tryd.prog theG ref02_round_T 181 0
def ref02_round_lv : Nat → List Nat := fun i => bif Nat.beq i 10 then [3, 6, 13, 20] else bif Nat.beq i 8 then [3, 5, 6, 7, 13, 14, 17, 18, 19] else bif Nat.beq i 6 then [3, 5, 6, 7, 13, 14] else bif Nat.beq i 4 then [3, 5, 6, 7, 10] else bif Nat.beq i 2 then [1, 3, 5, 6, 7, 8, 9] else bif Nat.beq i 0 then [1, 3, 5, 6, 7, 8] else []
noncomputable abbrev ref02_round_b : Code := Tryd.f51.body.getD .skip
noncomputable abbrev ref02_round_r : List ResultVar := Tryd.f51.results.toList
def ref02_round_hs : List Nat := []

def ref02_round_enc (r : Vector UInt32 8) : CallOut := ⟨.pv (.arr .u32 8 r), [], true, []⟩
def ref02_round_s0 (b : List UInt8) (i : Int) (s : Vector UInt32 8) (k_ : Vector UInt32 64) (t6 : Vector UInt32 8) (w : Vector UInt32 64) : St := ⟨[(1, .pv (.sl .u8 b)), (3, .p 60000 []), (5, .p 60001 []), (6, .p 60002 []), (7, .p 60003 []), (8, .pv (.sc .i i))], [(60000, .box (.pv (.arr .u32 8 s))), (60001, .box (.pv (.arr .u32 64 k_))), (60002, .box (.pv (.arr .u32 8 t6))), (60003, .box (.pv (.arr .u32 64 w)))]⟩
def ref02_round_s2 (b : List UInt8) (i : Int) (j : Int) (s : Vector UInt32 8) (k_ : Vector UInt32 64) (t6 : Vector UInt32 8) (w : Vector UInt32 64) : St := ⟨[(1, .pv (.sl .u8 b)), (3, .p 60000 []), (5, .p 60001 []), (6, .p 60002 []), (7, .p 60003 []), (8, .pv (.sc .i i)), (9, .pv (.sc .i j))], [(60000, .box (.pv (.arr .u32 8 s))), (60001, .box (.pv (.arr .u32 64 k_))), (60002, .box (.pv (.arr .u32 8 t6))), (60003, .box (.pv (.arr .u32 64 w)))]⟩
def ref02_round_s4 (i : Int) (s : Vector UInt32 8) (k_ : Vector UInt32 64) (t6 : Vector UInt32 8) (w : Vector UInt32 64) : St := ⟨[(3, .p 60000 []), (5, .p 60001 []), (6, .p 60002 []), (7, .p 60003 []), (10, .pv (.sc .i i))], [(60000, .box (.pv (.arr .u32 8 s))), (60001, .box (.pv (.arr .u32 64 k_))), (60002, .box (.pv (.arr .u32 8 t6))), (60003, .box (.pv (.arr .u32 64 w)))]⟩
def ref02_round_s6 (i : Int) (s : Vector UInt32 8) (k_ : Vector UInt32 64) (t6 : Vector UInt32 8) (w : Vector UInt32 64) (v : Vector UInt32 8) : St := ⟨[(3, .p 60000 []), (5, .p 60001 []), (6, .p 60002 []), (7, .p 60003 []), (13, .p 60004 []), (14, .pv (.sc .i i))], [(60000, .box (.pv (.arr .u32 8 s))), (60001, .box (.pv (.arr .u32 64 k_))), (60002, .box (.pv (.arr .u32 8 t6))), (60003, .box (.pv (.arr .u32 64 w))), (60004, .box (.pv (.arr .u32 8 v)))]⟩
def ref02_round_s8 (i : Int) (t : UInt32) (u : UInt32) (j : Int) (s : Vector UInt32 8) (k_ : Vector UInt32 64) (t6 : Vector UInt32 8) (w : Vector UInt32 64) (v : Vector UInt32 8) : St := ⟨[(3, .p 60000 []), (5, .p 60001 []), (6, .p 60002 []), (7, .p 60003 []), (13, .p 60004 []), (14, .pv (.sc .i i)), (17, .pv (.sc .u32 t)), (18, .pv (.sc .u32 u)), (19, .pv (.sc .i j))], [(60000, .box (.pv (.arr .u32 8 s))), (60001, .box (.pv (.arr .u32 64 k_))), (60002, .box (.pv (.arr .u32 8 t6))), (60003, .box (.pv (.arr .u32 64 w))), (60004, .box (.pv (.arr .u32 8 v)))]⟩
def ref02_round_s10 (i : Int) (s : Vector UInt32 8) (t6 : Vector UInt32 8) (v : Vector UInt32 8) : St := ⟨[(3, .p 60000 []), (6, .p 60001 []), (13, .p 60002 []), (20, .pv (.sc .i i))], [(60000, .box (.pv (.arr .u32 8 s))), (60001, .box (.pv (.arr .u32 8 t6))), (60002, .box (.pv (.arr .u32 8 v)))]⟩
theorem ref02_round_g0 (b : List UInt8) (i : Int) (s : Vector UInt32 8) (k_ : Vector UInt32 64) (t6 : Vector UInt32 8) (w : Vector UInt32 64) (Q : CallOut → Prop) : headRound ref02_round_C ref02_round_lv [true, true, false, true, false] ref02_round_b (ref02_round_s0 b i s k_ t6 w) (fnK ref02_round_C ref02_round_r ref02_round_hs Q) =
    (condP (decide (i < (16 : Int))) (headP ref02_round_C ref02_round_lv [true, true, false, true, false, false, true, false, false, true, false] ref02_round_b (ref02_round_s2 b i (0 : Int) s k_ t6 w) (fnK ref02_round_C ref02_round_r ref02_round_hs Q)) (headP ref02_round_C ref02_round_lv [true, true, true, false, true, false] ref02_round_b (ref02_round_s4 (16 : Int) s k_ t6 w) (fnK ref02_round_C ref02_round_r ref02_round_hs Q))) := by kernel_rfl
theorem ref02_round_g2 (b : List UInt8) (i : Int) (j : Int) (s : Vector UInt32 8) (k_ : Vector UInt32 64) (t6 : Vector UInt32 8) (w : Vector UInt32 64) (Q : CallOut → Prop) : headRound ref02_round_C ref02_round_lv [true, true, false, true, false, false, true, false, false, true, false] ref02_round_b (ref02_round_s2 b i j s k_ t6 w) (fnK ref02_round_C ref02_round_r ref02_round_hs Q) =
    (condP (decide (j < (4 : Int))) ((((0 : Int) ≤ i) ∧ (i < (64 : Int))) ∧ ((((0 : Int) ≤ (w64 ((w64 ((4 : Int) * i)) + j))) ∧ ((w64 ((w64 ((4 : Int) * i)) + j)) < (((List.length b) : Nat) : Int))) ∧ ((((0 : Int) ≤ i) ∧ (i < (64 : Int))) ∧ (headP ref02_round_C ref02_round_lv [true, true, false, true, false, false, true, false, false, true, false] ref02_round_b (ref02_round_s2 b i (w64 (j + (1 : Int))) s k_ t6 (Vector.setIfInBounds w (Int.toNat i) (((256 : UInt32) * (List.getD (Vector.toList w) (Int.toNat i) (0 : UInt32))) + (UInt8.toUInt32 (List.getD b (Int.toNat (w64 ((w64 ((4 : Int) * i)) + j))) (0 : UInt8)))))) (fnK ref02_round_C ref02_round_r ref02_round_hs Q))))) (headP ref02_round_C ref02_round_lv [true, true, false, true, false] ref02_round_b (ref02_round_s0 b (w64 (i + (1 : Int))) s k_ t6 w) (fnK ref02_round_C ref02_round_r ref02_round_hs Q))) := by kernel_rfl
theorem ref02_round_g4 (i : Int) (s : Vector UInt32 8) (k_ : Vector UInt32 64) (t6 : Vector UInt32 8) (w : Vector UInt32 64) (Q : CallOut → Prop) : headRound ref02_round_C ref02_round_lv [true, true, true, false, true, false] ref02_round_b (ref02_round_s4 i s k_ t6 w) (fnK ref02_round_C ref02_round_r ref02_round_hs Q) =
    (condP (decide (i < (64 : Int))) ((((0 : Int) ≤ (w64 (i - (15 : Int)))) ∧ ((w64 (i - (15 : Int))) < (64 : Int))) ∧ ((((0 : Int) ≤ (w64 (i - (2 : Int)))) ∧ ((w64 (i - (2 : Int))) < (64 : Int))) ∧ ((((0 : Int) ≤ (w64 (i - (16 : Int)))) ∧ ((w64 (i - (16 : Int))) < (64 : Int))) ∧ ((((0 : Int) ≤ (w64 (i - (7 : Int)))) ∧ ((w64 (i - (7 : Int))) < (64 : Int))) ∧ ((((0 : Int) ≤ i) ∧ (i < (64 : Int))) ∧ (headP ref02_round_C ref02_round_lv [true, true, true, false, true, false] ref02_round_b (ref02_round_s4 (w64 (i + (1 : Int))) s k_ t6 (Vector.setIfInBounds w (Int.toNat i) ((((List.getD (Vector.toList w) (Int.toNat (w64 (i - (16 : Int)))) (0 : UInt32)) + (((ref02_turn (List.getD (Vector.toList w) (Int.toNat (w64 (i - (15 : Int)))) (0 : UInt32)) (7 : UInt64)) ^^^ (ref02_turn (List.getD (Vector.toList w) (Int.toNat (w64 (i - (15 : Int)))) (0 : UInt32)) (18 : UInt64))) ^^^ (shr_u32 (List.getD (Vector.toList w) (Int.toNat (w64 (i - (15 : Int)))) (0 : UInt32)) (3 : Nat)))) + (List.getD (Vector.toList w) (Int.toNat (w64 (i - (7 : Int)))) (0 : UInt32))) + (((ref02_turn (List.getD (Vector.toList w) (Int.toNat (w64 (i - (2 : Int)))) (0 : UInt32)) (17 : UInt64)) ^^^ (ref02_turn (List.getD (Vector.toList w) (Int.toNat (w64 (i - (2 : Int)))) (0 : UInt32)) (19 : UInt64))) ^^^ (shr_u32 (List.getD (Vector.toList w) (Int.toNat (w64 (i - (2 : Int)))) (0 : UInt32)) (10 : Nat)))))) (fnK ref02_round_C ref02_round_r ref02_round_hs Q))))))) (headP ref02_round_C ref02_round_lv [true, true, true, true, true, false, true, false] ref02_round_b (ref02_round_s6 (0 : Int) s k_ t6 w s) (fnK ref02_round_C ref02_round_r ref02_round_hs Q))) := by kernel_rfl
theorem ref02_round_g6 (i : Int) (s : Vector UInt32 8) (k_ : Vector UInt32 64) (t6 : Vector UInt32 8) (w : Vector UInt32 64) (v : Vector UInt32 8) (Q : CallOut → Prop) : headRound ref02_round_C ref02_round_lv [true, true, true, true, true, false, true, false] ref02_round_b (ref02_round_s6 i s k_ t6 w v) (fnK ref02_round_C ref02_round_r ref02_round_hs Q) =
    (condP (decide (i < (64 : Int))) ((((0 : Int) ≤ (0 : Int)) ∧ ((0 : Int) < (8 : Int))) ∧ ((((0 : Int) ≤ (4 : Int)) ∧ ((4 : Int) < (8 : Int))) ∧ ((((0 : Int) ≤ (7 : Int)) ∧ ((7 : Int) < (8 : Int))) ∧ ((((0 : Int) ≤ (5 : Int)) ∧ ((5 : Int) < (8 : Int))) ∧ ((((0 : Int) ≤ (6 : Int)) ∧ ((6 : Int) < (8 : Int))) ∧ ((((0 : Int) ≤ i) ∧ (i < (64 : Int))) ∧ ((((0 : Int) ≤ i) ∧ (i < (64 : Int))) ∧ ((((0 : Int) ≤ (1 : Int)) ∧ ((1 : Int) < (8 : Int))) ∧ ((((0 : Int) ≤ (2 : Int)) ∧ ((2 : Int) < (8 : Int))) ∧ ((((0 : Int) ≤ (1 : Int)) ∧ ((1 : Int) < (8 : Int))) ∧ ((((0 : Int) ≤ (2 : Int)) ∧ ((2 : Int) < (8 : Int))) ∧ (headP ref02_round_C ref02_round_lv [true, true, true, true, true, false, true, false, false, true, false, false, true, true, true, false, true, false] ref02_round_b (ref02_round_s8 i (((((List.getD (Vector.toList v) (7 : Nat) (0 : UInt32)) + (((ref02_turn (List.getD (Vector.toList v) (4 : Nat) (0 : UInt32)) (6 : UInt64)) ^^^ (ref02_turn (List.getD (Vector.toList v) (4 : Nat) (0 : UInt32)) (11 : UInt64))) ^^^ (ref02_turn (List.getD (Vector.toList v) (4 : Nat) (0 : UInt32)) (25 : UInt64)))) + (((List.getD (Vector.toList v) (4 : Nat) (0 : UInt32)) &&& (List.getD (Vector.toList v) (5 : Nat) (0 : UInt32))) ^^^ ((~~~(List.getD (Vector.toList v) (4 : Nat) (0 : UInt32))) &&& (List.getD (Vector.toList v) (6 : Nat) (0 : UInt32))))) + (List.getD (Vector.toList k_) (Int.toNat i) (0 : UInt32))) + (List.getD (Vector.toList w) (Int.toNat i) (0 : UInt32))) ((((ref02_turn (List.getD (Vector.toList v) (0 : Nat) (0 : UInt32)) (2 : UInt64)) ^^^ (ref02_turn (List.getD (Vector.toList v) (0 : Nat) (0 : UInt32)) (13 : UInt64))) ^^^ (ref02_turn (List.getD (Vector.toList v) (0 : Nat) (0 : UInt32)) (22 : UInt64))) + ((((List.getD (Vector.toList v) (0 : Nat) (0 : UInt32)) &&& (List.getD (Vector.toList v) (1 : Nat) (0 : UInt32))) ^^^ ((List.getD (Vector.toList v) (0 : Nat) (0 : UInt32)) &&& (List.getD (Vector.toList v) (2 : Nat) (0 : UInt32)))) ^^^ ((List.getD (Vector.toList v) (1 : Nat) (0 : UInt32)) &&& (List.getD (Vector.toList v) (2 : Nat) (0 : UInt32))))) (7 : Int) s k_ t6 w v) (fnK ref02_round_C ref02_round_r ref02_round_hs Q))))))))))))) (headP ref02_round_C ref02_round_lv [true, true, true, true, true, true, false, true, false] ref02_round_b (ref02_round_s10 (0 : Int) s t6 v) (fnK ref02_round_C ref02_round_r ref02_round_hs Q))) := by kernel_rfl
theorem ref02_round_g8 (i : Int) (t : UInt32) (u : UInt32) (j : Int) (s : Vector UInt32 8) (k_ : Vector UInt32 64) (t6 : Vector UInt32 8) (w : Vector UInt32 64) (v : Vector UInt32 8) (Q : CallOut → Prop) : headRound ref02_round_C ref02_round_lv [true, true, true, true, true, false, true, false, false, true, false, false, true, true, true, false, true, false] ref02_round_b (ref02_round_s8 i t u j s k_ t6 w v) (fnK ref02_round_C ref02_round_r ref02_round_hs Q) =
    (condP (decide ((0 : Int) < j)) ((((0 : Int) ≤ (w64 (j - (1 : Int)))) ∧ ((w64 (j - (1 : Int))) < (8 : Int))) ∧ ((((0 : Int) ≤ j) ∧ (j < (8 : Int))) ∧ (headP ref02_round_C ref02_round_lv [true, true, true, true, true, false, true, false, false, true, false, false, true, true, true, false, true, false] ref02_round_b (ref02_round_s8 i t u (w64 (j - (1 : Int))) s k_ t6 w (Vector.setIfInBounds v (Int.toNat j) (List.getD (Vector.toList v) (Int.toNat (w64 (j - (1 : Int)))) (0 : UInt32)))) (fnK ref02_round_C ref02_round_r ref02_round_hs Q)))) ((((0 : Int) ≤ (4 : Int)) ∧ ((4 : Int) < (8 : Int))) ∧ ((((0 : Int) ≤ (4 : Int)) ∧ ((4 : Int) < (8 : Int))) ∧ ((((0 : Int) ≤ (0 : Int)) ∧ ((0 : Int) < (8 : Int))) ∧ (headP ref02_round_C ref02_round_lv [true, true, true, true, true, false, true, false] ref02_round_b (ref02_round_s6 (w64 (i + (1 : Int))) s k_ t6 w (Vector.setIfInBounds (Vector.setIfInBounds v (4 : Nat) ((List.getD (Vector.toList v) (4 : Nat) (0 : UInt32)) + t)) (0 : Nat) (t + u))) (fnK ref02_round_C ref02_round_r ref02_round_hs Q)))))) := by kernel_rfl
theorem ref02_round_g10 (i : Int) (s : Vector UInt32 8) (t6 : Vector UInt32 8) (v : Vector UInt32 8) (Q : CallOut → Prop) : headRound ref02_round_C ref02_round_lv [true, true, true, true, true, true, false, true, false] ref02_round_b (ref02_round_s10 i s t6 v) (fnK ref02_round_C ref02_round_r ref02_round_hs Q) =
    (condP (decide (i < (8 : Int))) ((((0 : Int) ≤ i) ∧ (i < (8 : Int))) ∧ ((((0 : Int) ≤ i) ∧ (i < (8 : Int))) ∧ ((((0 : Int) ≤ i) ∧ (i < (8 : Int))) ∧ (headP ref02_round_C ref02_round_lv [true, true, true, true, true, true, false, true, false] ref02_round_b (ref02_round_s10 (w64 (i + (1 : Int))) s t6 (Vector.setIfInBounds v (Int.toNat i) ((List.getD (Vector.toList v) (Int.toNat i) (0 : UInt32)) + (List.getD (Vector.toList s) (Int.toNat i) (0 : UInt32))))) (fnK ref02_round_C ref02_round_r ref02_round_hs Q))))) (Q (ref02_round_enc v))) := by kernel_rfl
theorem ref02_round_k10 {r : Vector UInt32 8} {Q : CallOut → Prop} (hQ : Q (ref02_round_enc r)) : ∀ k : Nat, (∀ (i : Int) (s : Vector UInt32 8) (t6 : Vector UInt32 8) (v : Vector UInt32 8), ref02_round_h10 k i s t6 v = some r → headP ref02_round_C ref02_round_lv [true, true, true, true, true, true, false, true, false] ref02_round_b (ref02_round_s10 i s t6 v) (fnK ref02_round_C ref02_round_r ref02_round_hs Q))
  | 0 => fun _ _ _ _ h => no_ok h
  | k + 1 => fun i s t6 v h => headP_step (Eq.mpr (ref02_round_g10 i s t6 v Q) (have h := (ref02_round_h10_q k i s t6 v).symm.trans h; cond_ok h (fun h => ite_ok h fun hc0 h => ⟨hc0, ⟨hc0, (ref02_round_k10 hQ k) _ _ _ _ h⟩⟩) (fun h => ret_ok (Q := Q) (e := ref02_round_enc) h hQ)))
theorem ref02_round_k6 {r : Vector UInt32 8} {Q : CallOut → Prop} (hQ : Q (ref02_round_enc r)) : ∀ k : Nat, (∀ (i : Int) (s : Vector UInt32 8) (k_ : Vector UInt32 64) (t6 : Vector UInt32 8) (w : Vector UInt32 64) (v : Vector UInt32 8), ref02_round_h6 k i s k_ t6 w v = some r → headP ref02_round_C ref02_round_lv [true, true, true, true, true, false, true, false] ref02_round_b (ref02_round_s6 i s k_ t6 w v) (fnK ref02_round_C ref02_round_r ref02_round_hs Q)) ∧ (∀ (i : Int) (t : UInt32) (u : UInt32) (j : Int) (s : Vector UInt32 8) (k_ : Vector UInt32 64) (t6 : Vector UInt32 8) (w : Vector UInt32 64) (v : Vector UInt32 8), ref02_round_h8 k i t u j s k_ t6 w v = some r → headP ref02_round_C ref02_round_lv [true, true, true, true, true, false, true, false, false, true, false, false, true, true, true, false, true, false] ref02_round_b (ref02_round_s8 i t u j s k_ t6 w v) (fnK ref02_round_C ref02_round_r ref02_round_hs Q))
  | 0 => ⟨fun _ _ _ _ _ _ h => no_ok h, fun _ _ _ _ _ _ _ _ _ h => no_ok h⟩
  | k + 1 => ⟨fun i s k_ t6 w v h => headP_step (Eq.mpr (ref02_round_g6 i s k_ t6 w v Q) (have h := (ref02_round_h6_q k i s k_ t6 w v).symm.trans h; cond_ok h (fun h => ⟨by decide +kernel, ⟨by decide +kernel, ⟨by decide +kernel, ⟨by decide +kernel, ⟨by decide +kernel, ite_ok h fun hc0 h => ⟨hc0, ⟨by decide +kernel, ⟨by decide +kernel, ⟨by decide +kernel, ⟨by decide +kernel, (ref02_round_k6 hQ k).2 _ _ _ _ _ _ _ _ _ h⟩⟩⟩⟩⟩⟩⟩⟩⟩⟩) (fun h => (ref02_round_k10 hQ _) _ _ _ _ h))),
    fun i t u j s k_ t6 w v h => headP_step (Eq.mpr (ref02_round_g8 i t u j s k_ t6 w v Q) (have h := (ref02_round_h8_q k i t u j s k_ t6 w v).symm.trans h; cond_ok h (fun h => ite_ok h fun hc0 h => ite_ok h fun hc1 h => (ref02_round_k6 hQ k).2 _ _ _ _ _ _ _ _ _ h) (fun h => ⟨by decide +kernel, ⟨by decide +kernel, ⟨by decide +kernel, (ref02_round_k6 hQ k).1 _ _ _ _ _ _ h⟩⟩⟩)))⟩
theorem ref02_round_k4 {r : Vector UInt32 8} {Q : CallOut → Prop} (hQ : Q (ref02_round_enc r)) : ∀ k : Nat, (∀ (i : Int) (s : Vector UInt32 8) (k_ : Vector UInt32 64) (t6 : Vector UInt32 8) (w : Vector UInt32 64), ref02_round_h4 k i s k_ t6 w = some r → headP ref02_round_C ref02_round_lv [true, true, true, false, true, false] ref02_round_b (ref02_round_s4 i s k_ t6 w) (fnK ref02_round_C ref02_round_r ref02_round_hs Q))
  | 0 => fun _ _ _ _ _ h => no_ok h
  | k + 1 => fun i s k_ t6 w h => headP_step (Eq.mpr (ref02_round_g4 i s k_ t6 w Q) (have h := (ref02_round_h4_q k i s k_ t6 w).symm.trans h; cond_ok h (fun h => ite_ok h fun hc0 h => ite_ok h fun hc1 h => ite_ok h fun hc2 h => ite_ok h fun hc3 h => ite_ok h fun hc4 h => (ref02_round_k4 hQ k) _ _ _ _ _ h) (fun h => (ref02_round_k6 hQ _).1 _ _ _ _ _ _ h)))
theorem ref02_round_k0 {r : Vector UInt32 8} {Q : CallOut → Prop} (hQ : Q (ref02_round_enc r)) : ∀ k : Nat, (∀ (b : List UInt8) (i : Int) (s : Vector UInt32 8) (k_ : Vector UInt32 64) (t6 : Vector UInt32 8) (w : Vector UInt32 64), ref02_round_h0 k b i s k_ t6 w = some r → headP ref02_round_C ref02_round_lv [true, true, false, true, false] ref02_round_b (ref02_round_s0 b i s k_ t6 w) (fnK ref02_round_C ref02_round_r ref02_round_hs Q)) ∧ (∀ (b : List UInt8) (i : Int) (j : Int) (s : Vector UInt32 8) (k_ : Vector UInt32 64) (t6 : Vector UInt32 8) (w : Vector UInt32 64), ref02_round_h2 k b i j s k_ t6 w = some r → headP ref02_round_C ref02_round_lv [true, true, false, true, false, false, true, false, false, true, false] ref02_round_b (ref02_round_s2 b i j s k_ t6 w) (fnK ref02_round_C ref02_round_r ref02_round_hs Q))
  | 0 => ⟨fun _ _ _ _ _ _ h => no_ok h, fun _ _ _ _ _ _ _ h => no_ok h⟩
  | k + 1 => ⟨fun b i s k_ t6 w h => headP_step (Eq.mpr (ref02_round_g0 b i s k_ t6 w Q) (have h := (ref02_round_h0_q k b i s k_ t6 w).symm.trans h; cond_ok h (fun h => (ref02_round_k0 hQ k).2 _ _ _ _ _ _ _ h) (fun h => (ref02_round_k4 hQ _) _ _ _ _ _ h))),
    fun b i j s k_ t6 w h => headP_step (Eq.mpr (ref02_round_g2 b i j s k_ t6 w Q) (have h := (ref02_round_h2_q k b i j s k_ t6 w).symm.trans h; cond_ok h (fun h => ite_ok h fun hc0 h => ite_ok h fun hc1 h => ⟨hc0, (ref02_round_k0 hQ k).2 _ _ _ _ _ _ _ h⟩) (fun h => (ref02_round_k0 hQ k).1 _ _ _ _ _ _ h)))⟩
theorem ref02_round_e (s : Vector UInt32 8) (b : List UInt8) (k_2 : Vector UInt32 64) (Q : CallOut → Prop) : evalFnP ref02_round_C ref02_round_lv ref02_round_r ref02_round_hs ref02_round_b [.pv (.arr .u32 8 s), .pv (.sl .u8 b), .pv (.arr .u32 64 k_2)] [] Q =
    (headP ref02_round_C ref02_round_lv [true, true, false, true, false] ref02_round_b (ref02_round_s0 b (0 : Int) s k_2 (Vector.replicate (8 : Nat) (0 : UInt32)) (Vector.replicate (64 : Nat) (0 : UInt32))) (fnK ref02_round_C ref02_round_r ref02_round_hs Q)) := by kernel_rfl
theorem ref02_round_w {k : Nat} (s : Vector UInt32 8) (b : List UInt8) (k_2 : Vector UInt32 64) {r} {Q : CallOut → Prop} (h : ref02_round k s b k_2 = some r) (hQ : Q (ref02_round_enc r)) : evalFnP ref02_round_C ref02_round_lv ref02_round_r ref02_round_hs ref02_round_b [.pv (.arr .u32 8 s), .pv (.sl .u8 b), .pv (.arr .u32 64 k_2)] [] Q :=
  Eq.mpr (ref02_round_e s b k_2 Q) (have h := (ref02_round_q k s b k_2).symm.trans h; (ref02_round_k0 hQ _).1 _ _ _ _ _ _ h)
def ref02_round_c : Ans
  | [.pv (.arr .u32 8 s), .pv (.sl .u8 b), .pv (.arr .u32 64 k_2)], [] => some (some (64 ≤ b.length), ref02_round_enc (shaRound k_2 s (fun i => List.getD b i 0)))
  | _, _ => none
theorem ref02_round_tok : TblOK Tryd.prog theG ref02_round_T := .cons ⟨by kernel_rfl, ref02_turn_ok⟩ (.nil)
theorem ref02_round_ok : FnOK Tryd.prog theG 51 (unW ref02_round_c) := by
  refine FnOK.ofC (T := ref02_round_T) (nt := 181) (np := 0) (hs := ref02_round_hs) (fn := Tryd.f51) (body := ref02_round_b) ref02_round_tok (by kernel_rfl) (by kernel_rfl) (by kernel_rfl) (by kernel_rfl) (c := ref02_round_c) (lv := ref02_round_lv) ?_
  intro xs mem p out h hp
  unfold ref02_round_c at h
  split at h
  · cases h
    obtain ⟨k, hk⟩ := ref02_round_spec _ _ _ hp
    exact ref02_round_w _ _ _ hk rfl
  · cases h
end
end Go.Proofs.YtkjillpcmffgoaaDoor.M

namespace Go.Proofs.YtkjillpcmffgoaaDoor.M
open Go
noncomputable section
set_option maxRecDepth 100000
noncomputable def ref02_Round_T : Tbl := [(52, [], ref02_K_c), (51, [], ref02_round_c)]
noncomputable def ref02_Round_C : CfgW := mkC Tryd.prog theG ref02_Round_T 21 0
def ref02_Round_lv : Nat → List Nat := fun i => bif Nat.beq i 0 then [2, 3, 4, 5, 6] else []
noncomputable abbrev ref02_Round_b : Code := Tryd.f14.body.getD .skip
noncomputable abbrev ref02_Round_r : List ResultVar := Tryd.f14.results.toList
def ref02_Round_hs : List Nat := []

def ref02_Round_enc (r : Vector UInt32 8) : CallOut := ⟨.pv (.arr .u32 8 r), [], true, []⟩
def ref02_Round_s0 (i : Int) (s : Vector UInt32 8) (b : Vector UInt8 64) (t4 : Vector UInt32 8) (l : List UInt8) : St := ⟨[(2, .p 60000 []), (3, .p 60001 []), (4, .p 60002 []), (5, .o 60003), (6, .pv (.sc .i i))], [(60000, .box (.pv (.arr .u32 8 s))), (60001, .box (.pv (.arr .u8 64 b))), (60002, .box (.pv (.arr .u32 8 t4))), (60003, .row (.s .u8 l) false)]⟩
theorem ref02_Round_g0 (i : Int) (s : Vector UInt32 8) (b : Vector UInt8 64) (t4 : Vector UInt32 8) (l : List UInt8) (Q : CallOut → Prop) : headRound ref02_Round_C ref02_Round_lv [true, true, false, true, false] ref02_Round_b (ref02_Round_s0 i s b t4 l) (fnK ref02_Round_C ref02_Round_r ref02_Round_hs Q) =
    (condP (decide (i < (64 : Int))) ((((0 : Int) ≤ i) ∧ (i < (64 : Int))) ∧ (((((List.length (l ++ ([(List.getD (Vector.toList b) (Int.toNat i) (0 : UInt8))] : List UInt8))) * (1 : Nat)) ≤ (70368744177664 : Nat)) ∧ ((List.length (l ++ ([(List.getD (Vector.toList b) (Int.toNat i) (0 : UInt8))] : List UInt8))) ≤ (70368744177664 : Nat))) ∧ (headP ref02_Round_C ref02_Round_lv [true, true, false, true, false] ref02_Round_b (ref02_Round_s0 (w64 (i + (1 : Int))) s b t4 (l ++ ([(List.getD (Vector.toList b) (Int.toNat i) (0 : UInt8))] : List UInt8))) (fnK ref02_Round_C ref02_Round_r ref02_Round_hs Q)))) (((64 : Nat) ≤ (List.length l)) ∧ (Q (ref02_Round_enc (shaRound shaK s (fun (z6 : Nat) => (List.getD l z6 (0 : UInt8)))))))) := by kernel_rfl
theorem ref02_Round_k0 {r : Vector UInt32 8} {Q : CallOut → Prop} (hQ : Q (ref02_Round_enc r)) : ∀ k : Nat, (∀ (i : Int) (s : Vector UInt32 8) (b : Vector UInt8 64) (t4 : Vector UInt32 8) (l : List UInt8), ref02_Round_h0 k i s b t4 l = some r → headP ref02_Round_C ref02_Round_lv [true, true, false, true, false] ref02_Round_b (ref02_Round_s0 i s b t4 l) (fnK ref02_Round_C ref02_Round_r ref02_Round_hs Q))
  | 0 => fun _ _ _ _ _ h => no_ok h
  | k + 1 => fun i s b t4 l h => headP_step (Eq.mpr (ref02_Round_g0 i s b t4 l Q) (have h := (ref02_Round_h0_q k i s b t4 l).symm.trans h; cond_ok h (fun h => ite_ok h fun hc0 h => ite_ok h fun hc1 h => (ref02_Round_k0 hQ k) _ _ _ _ _ h) (fun h => ite_ok h fun hc0 h => ret_ok (Q := Q) (e := ref02_Round_enc) h hQ)))
theorem ref02_Round_e (s : Vector UInt32 8) (b : Vector UInt8 64) (Q : CallOut → Prop) : evalFnP ref02_Round_C ref02_Round_lv ref02_Round_r ref02_Round_hs ref02_Round_b [.pv (.arr .u32 8 s), .pv (.arr .u8 64 b)] [] Q =
    (headP ref02_Round_C ref02_Round_lv [true, true, false, true, false] ref02_Round_b (ref02_Round_s0 (0 : Int) s b (Vector.replicate (8 : Nat) (0 : UInt32)) ([] : List UInt8)) (fnK ref02_Round_C ref02_Round_r ref02_Round_hs Q)) := by kernel_rfl
theorem ref02_Round_w {k : Nat} (s : Vector UInt32 8) (b : Vector UInt8 64) {r} {Q : CallOut → Prop} (h : ref02_Round k s b = some r) (hQ : Q (ref02_Round_enc r)) : evalFnP ref02_Round_C ref02_Round_lv ref02_Round_r ref02_Round_hs ref02_Round_b [.pv (.arr .u32 8 s), .pv (.arr .u8 64 b)] [] Q :=
  Eq.mpr (ref02_Round_e s b Q) (have h := (ref02_Round_q k s b).symm.trans h; (ref02_Round_k0 hQ _) _ _ _ _ _ h)
def ref02_Round_c : Ans
  | [.pv (.arr .u32 8 s), .pv (.arr .u8 64 b)], [] => some (none, ref02_Round_enc (shaRound shaK s (fun i => List.getD (Vector.toList b) i 0)))
  | _, _ => none
theorem ref02_Round_tok : TblOK Tryd.prog theG ref02_Round_T := .cons ⟨by kernel_rfl, ref02_K_ok⟩ (.cons ⟨by kernel_rfl, ref02_round_ok⟩ (.nil))
theorem ref02_Round_ok : FnOK Tryd.prog theG 14 (unW ref02_Round_c) := by
  refine FnOK.ofC (T := ref02_Round_T) (nt := 21) (np := 0) (hs := ref02_Round_hs) (fn := Tryd.f14) (body := ref02_Round_b) ref02_Round_tok (by kernel_rfl) (by kernel_rfl) (by kernel_rfl) (by kernel_rfl) (c := ref02_Round_c) (lv := ref02_Round_lv) ?_
  intro xs mem p out h hp
  unfold ref02_Round_c at h
  split at h
  · cases h
    obtain ⟨k, hk⟩ := ref02_Round_spec _ _
    exact ref02_Round_w _ _ hk rfl
  · cases h
end
end Go.Proofs.YtkjillpcmffgoaaDoor.M

namespace Go.Proofs.YtkjillpcmffgoaaDoor.M
open Go
noncomputable section
set_option maxRecDepth 100000
noncomputable def ref02_Begin_T : Tbl := [(53, [], ref02_primes_c), (54, [], ref02_part_c)]
noncomputable def ref02_Begin_C : CfgW := mkC Tryd.prog theG ref02_Begin_T 17 0
def ref02_Begin_lv : Nat → List Nat := fun i => bif Nat.beq i 0 then [0, 1, 2, 3] else []
noncomputable abbrev ref02_Begin_b : Code := Tryd.f16.body.getD .skip
noncomputable abbrev ref02_Begin_r : List ResultVar := Tryd.f16.results.toList
def ref02_Begin_hs : List Nat := []

def ref02_Begin_enc (r : Vector UInt32 8) : CallOut := ⟨.pv (.arr .u32 8 r), [], true, []⟩
def ref02_Begin_s0 (i : Int) (t0 : Vector UInt32 8) (l : List UInt64) (out : Vector UInt32 8) : St := ⟨[(0, .p 60000 []), (1, .o 60001), (2, .p 60002 []), (3, .pv (.sc .i i))], [(60000, .box (.pv (.arr .u32 8 t0))), (60001, .row (.s .u64 l) false), (60002, .box (.pv (.arr .u32 8 out)))]⟩
theorem ref02_Begin_g0 (i : Int) (t0 : Vector UInt32 8) (l : List UInt64) (out : Vector UInt32 8) (Q : CallOut → Prop) : headRound ref02_Begin_C ref02_Begin_lv [true, true, true, false, true, false] ref02_Begin_b (ref02_Begin_s0 i t0 l out) (fnK ref02_Begin_C ref02_Begin_r ref02_Begin_hs Q) =
    (condP (decide (i < (8 : Int))) ((((0 : Int) ≤ i) ∧ (i < (((List.length l) : Nat) : Int))) ∧ (((Option.isSome (ref02_part_z (List.getD l (Int.toNat i) (0 : UInt64)) false)) = true) ∧ ((((0 : Int) ≤ i) ∧ (i < (8 : Int))) ∧ (headP ref02_Begin_C ref02_Begin_lv [true, true, true, false, true, false] ref02_Begin_b (ref02_Begin_s0 (w64 (i + (1 : Int))) t0 l (Vector.setIfInBounds out (Int.toNat i) (Option.get! (ref02_part_z (List.getD l (Int.toNat i) (0 : UInt64)) false)))) (fnK ref02_Begin_C ref02_Begin_r ref02_Begin_hs Q))))) (Q (ref02_Begin_enc out))) := by kernel_rfl
theorem ref02_Begin_k0 {r : Vector UInt32 8} {Q : CallOut → Prop} (hQ : Q (ref02_Begin_enc r)) : ∀ k : Nat, (∀ (i : Int) (t0 : Vector UInt32 8) (l : List UInt64) (out : Vector UInt32 8), ref02_Begin_h0 k i t0 l out = some r → headP ref02_Begin_C ref02_Begin_lv [true, true, true, false, true, false] ref02_Begin_b (ref02_Begin_s0 i t0 l out) (fnK ref02_Begin_C ref02_Begin_r ref02_Begin_hs Q))
  | 0 => fun _ _ _ _ h => no_ok h
  | k + 1 => fun i t0 l out h => headP_step (Eq.mpr (ref02_Begin_g0 i t0 l out Q) (have h := (ref02_Begin_h0_q k i t0 l out).symm.trans h; cond_ok h (fun h => ite_ok h fun hc0 h => ite_ok h fun hc1 h => ite_ok h fun hc2 h => (ref02_Begin_k0 hQ k) _ _ _ _ h) (fun h => ret_ok (Q := Q) (e := ref02_Begin_enc) h hQ)))
theorem ref02_Begin_e  (Q : CallOut → Prop) : evalFnP ref02_Begin_C ref02_Begin_lv ref02_Begin_r ref02_Begin_hs ref02_Begin_b [] [] Q =
    (((Option.isSome (ref02_primes_z (8 : Int))) = true) ∧ (headP ref02_Begin_C ref02_Begin_lv [true, true, true, false, true, false] ref02_Begin_b (ref02_Begin_s0 (0 : Int) (Vector.replicate (8 : Nat) (0 : UInt32)) (Option.get! (ref02_primes_z (8 : Int))) (Vector.replicate (8 : Nat) (0 : UInt32))) (fnK ref02_Begin_C ref02_Begin_r ref02_Begin_hs Q))) := by kernel_rfl
theorem ref02_Begin_w {k : Nat}  {r} {Q : CallOut → Prop} (h : ref02_Begin k  = some r) (hQ : Q (ref02_Begin_enc r)) : evalFnP ref02_Begin_C ref02_Begin_lv ref02_Begin_r ref02_Begin_hs ref02_Begin_b [] [] Q :=
  Eq.mpr (ref02_Begin_e  Q) (have h := (ref02_Begin_q k ).symm.trans h; ⟨by decide +kernel, (ref02_Begin_k0 hQ _) _ _ _ _ h⟩)
def ref02_Begin_c : Ans
  | [], [] => some (some ((ref02_Begin_z ).isSome = true), ref02_Begin_enc ((ref02_Begin_z ).get!))
  | _, _ => none
theorem ref02_Begin_tok : TblOK Tryd.prog theG ref02_Begin_T := .cons ⟨by kernel_rfl, ref02_primes_ok⟩ (.cons ⟨by kernel_rfl, ref02_part_ok⟩ (.nil))
theorem ref02_Begin_ok : FnOK Tryd.prog theG 16 (unW ref02_Begin_c) := by
  refine FnOK.ofC (T := ref02_Begin_T) (nt := 17) (np := 0) (hs := ref02_Begin_hs) (fn := Tryd.f16) (body := ref02_Begin_b) ref02_Begin_tok (by kernel_rfl) (by kernel_rfl) (by kernel_rfl) (by kernel_rfl) (c := ref02_Begin_c) (lv := ref02_Begin_lv) ?_
  intro xs mem p out h hp
  unfold ref02_Begin_c at h
  split at h
  · cases h
    exact ref02_Begin_w (k := 1000)  ((ref02_Begin_z_eq ).symm.trans (some_get hp)) rfl
  · cases h
end
end Go.Proofs.YtkjillpcmffgoaaDoor.M
