/- Part of the proofs: what functions of the program do: plain functions, and the walks that show it. No condition. -/
import Derived.KernelRfl
import Derived.Test.YtkjillpcmffgoaaDoorProg
import Derived.Test.YtkjillpcmffgoaaDoorLd
import Derived.Test.YtkjillpcmffgoaaDoorSwords
import Derived.Test.YtkjillpcmffgoaaDoorSshaK
set_option linter.unusedVariables false
set_option linter.unusedSimpArgs false
set_option autoImplicit false
namespace Go.Proofs.YtkjillpcmffgoaaDoor.M
open Go
noncomputable section
/-- the loop 0 of moneyer/moneyerref02.prime -/
def ref02_prime_h0 : Nat → UInt64 → UInt64 → Option (Bool)
  | 0, _, _ => none
  | k + 1, n, i => bif decide ((i * i) ≤ n) then (if i ≠ (0 : UInt64) then
        bif decide ((n % i) = (0 : UInt64)) then (some false)
          else (ref02_prime_h0 k n (i + (1 : UInt64)))
      else none)
      else (some (decide ((1 : UInt64) < n)))
theorem ref02_prime_h0_q (k : Nat) (n : UInt64) (i : UInt64) : ref02_prime_h0 (k + 1) n i =
  (bif decide ((i * i) ≤ n) then (if i ≠ (0 : UInt64) then
        bif decide ((n % i) = (0 : UInt64)) then (some false)
          else (ref02_prime_h0 k n (i + (1 : UInt64)))
      else none)
      else (some (decide ((1 : UInt64) < n)))) := by kernel_rfl
/-- moneyer/moneyerref02.prime -/
def ref02_prime (k : Nat) (n : UInt64) : Option (Bool) :=
  ref02_prime_h0 k n (2 : UInt64)
theorem ref02_prime_q (k : Nat) (n : UInt64) : ref02_prime k n = (ref02_prime_h0 k n (2 : UInt64)) := by kernel_rfl
@[irreducible] def ref02_prime_z (n : UInt64) : Option (Bool) := ref02_prime 1000 n
theorem ref02_prime_z_eq (n : UInt64) : ref02_prime_z n = ref02_prime 1000 n := by kernel_rfl

end
end Go.Proofs.YtkjillpcmffgoaaDoor.M

namespace Go.Proofs.YtkjillpcmffgoaaDoor.M
open Go
noncomputable section
/-- the loop 0 of moneyer/moneyerref02.primes -/
def ref02_primes_h0 : Nat → Int → UInt64 → (List UInt64) → Option (List UInt64)
  | 0, _, _, _ => none
  | k + 1, many, n, out => bif decide ((((List.length out) : Nat) : Int) < many) then (if (Option.isSome (ref02_prime_z n)) = true then
        bif Option.get! (ref02_prime_z n) then (if (((List.length (out ++ ([n] : List UInt64))) * (8 : Nat)) ≤ (70368744177664 : Nat)) ∧ ((List.length (out ++ ([n] : List UInt64))) ≤ (70368744177664 : Nat)) then
            ref02_primes_h0 k many (n + (1 : UInt64)) (out ++ ([n] : List UInt64))
          else none)
          else (ref02_primes_h0 k many (n + (1 : UInt64)) out)
      else none)
      else (some out)
theorem ref02_primes_h0_q (k : Nat) (many : Int) (n : UInt64) (out : List UInt64) : ref02_primes_h0 (k + 1) many n out =
  (bif decide ((((List.length out) : Nat) : Int) < many) then (if (Option.isSome (ref02_prime_z n)) = true then
        bif Option.get! (ref02_prime_z n) then (if (((List.length (out ++ ([n] : List UInt64))) * (8 : Nat)) ≤ (70368744177664 : Nat)) ∧ ((List.length (out ++ ([n] : List UInt64))) ≤ (70368744177664 : Nat)) then
            ref02_primes_h0 k many (n + (1 : UInt64)) (out ++ ([n] : List UInt64))
          else none)
          else (ref02_primes_h0 k many (n + (1 : UInt64)) out)
      else none)
      else (some out)) := by kernel_rfl
/-- moneyer/moneyerref02.primes -/
def ref02_primes (k : Nat) (many : Int) : Option (List UInt64) :=
  ref02_primes_h0 k many (2 : UInt64) ([] : List UInt64)
theorem ref02_primes_q (k : Nat) (many : Int) : ref02_primes k many = (ref02_primes_h0 k many (2 : UInt64) ([] : List UInt64)) := by kernel_rfl
@[irreducible] def ref02_primes_z (many : Int) : Option (List UInt64) := ref02_primes 1000 many
theorem ref02_primes_z_eq (many : Int) : ref02_primes_z many = ref02_primes 1000 many := by kernel_rfl

end
end Go.Proofs.YtkjillpcmffgoaaDoor.M

namespace Go.Proofs.YtkjillpcmffgoaaDoor.M
open Go
noncomputable section
/-- the loop 0 of moneyer/moneyerref02.add -/
def ref02_add_h0 : Nat → UInt64 → Int → (List UInt64) → Option (List UInt64)
  | 0, _, _, _ => none
  | k + 1, carry, i, l => bif eqb (decide (i < (((List.length l) : Nat) : Int))) true then (bif bif true then (decide ((0 : UInt64) < carry)) else false then (if ((0 : Int) ≤ i) ∧ (i < (((List.length l) : Nat) : Int)) then
          ref02_add_h0 k ((shr_u64 carry (32 : Nat)) + (shr_u64 ((List.getD l (Int.toNat i) (0 : UInt64)) + (carry &&& (4294967295 : UInt64))) (32 : Nat))) (w64 (i + (1 : Int))) (List.set l (Int.toNat i) (((List.getD l (Int.toNat i) (0 : UInt64)) + (carry &&& (4294967295 : UInt64))) &&& (4294967295 : UInt64)))
        else none)
        else (some l))
      else (some l)
theorem ref02_add_h0_q (k : Nat) (carry : UInt64) (i : Int) (l : List UInt64) : ref02_add_h0 (k + 1) carry i l =
  (bif eqb (decide (i < (((List.length l) : Nat) : Int))) true then (bif bif true then (decide ((0 : UInt64) < carry)) else false then (if ((0 : Int) ≤ i) ∧ (i < (((List.length l) : Nat) : Int)) then
          ref02_add_h0 k ((shr_u64 carry (32 : Nat)) + (shr_u64 ((List.getD l (Int.toNat i) (0 : UInt64)) + (carry &&& (4294967295 : UInt64))) (32 : Nat))) (w64 (i + (1 : Int))) (List.set l (Int.toNat i) (((List.getD l (Int.toNat i) (0 : UInt64)) + (carry &&& (4294967295 : UInt64))) &&& (4294967295 : UInt64)))
        else none)
        else (some l))
      else (some l)) := by kernel_rfl
/-- moneyer/moneyerref02.add -/
def ref02_add (k : Nat) (l : List UInt64) (at_1 : Int) (n : UInt64) : Option (List UInt64) :=
  ref02_add_h0 k n at_1 l
theorem ref02_add_q (k : Nat) (l : List UInt64) (at_1 : Int) (n : UInt64) : ref02_add k l at_1 n = (ref02_add_h0 k n at_1 l) := by kernel_rfl
@[irreducible] def ref02_add_z (l : List UInt64) (at_1 : Int) (n : UInt64) : Option (List UInt64) := ref02_add 1000 l at_1 n
theorem ref02_add_z_eq (l : List UInt64) (at_1 : Int) (n : UInt64) : ref02_add_z l at_1 n = ref02_add 1000 l at_1 n := by kernel_rfl

end
end Go.Proofs.YtkjillpcmffgoaaDoor.M

namespace Go.Proofs.YtkjillpcmffgoaaDoor.M
open Go
noncomputable section
/-- the loop 0 of moneyer/moneyerref02.times -/
def ref02_times_h0 : Nat → (List UInt64) → UInt64 → UInt64 → Int → (List UInt64) → Option (List UInt64)
  | 0, _, _, _, _, _ => none
  | k + 1, l, lo, hi, i, out => bif decide (i < (((List.length l) : Nat) : Int)) then (if ((0 : Int) ≤ i) ∧ (i < (((List.length l) : Nat) : Int)) then
        if (Option.isSome (ref02_add_z out i ((List.getD l (Int.toNat i) (0 : UInt64)) * lo))) = true then
          if (Option.isSome (ref02_add_z (Option.get! (ref02_add_z out i ((List.getD l (Int.toNat i) (0 : UInt64)) * lo))) (w64 (i + (1 : Int))) ((List.getD l (Int.toNat i) (0 : UInt64)) * hi))) = true then
            ref02_times_h0 k l lo hi (w64 (i + (1 : Int))) (Option.get! (ref02_add_z (Option.get! (ref02_add_z out i ((List.getD l (Int.toNat i) (0 : UInt64)) * lo))) (w64 (i + (1 : Int))) ((List.getD l (Int.toNat i) (0 : UInt64)) * hi)))
          else none
        else none
      else none)
      else (some out)
theorem ref02_times_h0_q (k : Nat) (l : List UInt64) (lo : UInt64) (hi : UInt64) (i : Int) (out : List UInt64) : ref02_times_h0 (k + 1) l lo hi i out =
  (bif decide (i < (((List.length l) : Nat) : Int)) then (if ((0 : Int) ≤ i) ∧ (i < (((List.length l) : Nat) : Int)) then
        if (Option.isSome (ref02_add_z out i ((List.getD l (Int.toNat i) (0 : UInt64)) * lo))) = true then
          if (Option.isSome (ref02_add_z (Option.get! (ref02_add_z out i ((List.getD l (Int.toNat i) (0 : UInt64)) * lo))) (w64 (i + (1 : Int))) ((List.getD l (Int.toNat i) (0 : UInt64)) * hi))) = true then
            ref02_times_h0 k l lo hi (w64 (i + (1 : Int))) (Option.get! (ref02_add_z (Option.get! (ref02_add_z out i ((List.getD l (Int.toNat i) (0 : UInt64)) * lo))) (w64 (i + (1 : Int))) ((List.getD l (Int.toNat i) (0 : UInt64)) * hi)))
          else none
        else none
      else none)
      else (some out)) := by kernel_rfl
/-- moneyer/moneyerref02.times -/
def ref02_times (k : Nat) (l : List UInt64) (x_1 : UInt64) : Option (List UInt64) :=
  if ((0 : Int) ≤ (w64 ((((List.length l) : Nat) : Int) + (2 : Int)))) ∧ (((w64 ((((List.length l) : Nat) : Int) + (2 : Int))) ≤ (w64 ((((List.length l) : Nat) : Int) + (2 : Int)))) ∧ ((((w64 ((((List.length l) : Nat) : Int) + (2 : Int))) * (((8 : Nat) : Nat) : Int)) ≤ (((70368744177664 : Nat) : Nat) : Int)) ∧ ((w64 ((((List.length l) : Nat) : Int) + (2 : Int))) ≤ ((2 : Int) ^ (62 : Nat))))) then
    ref02_times_h0 k l (x_1 &&& (4294967295 : UInt64)) (shr_u64 x_1 (32 : Nat)) (0 : Int) (List.replicate (Int.toNat (w64 ((((List.length l) : Nat) : Int) + (2 : Int)))) (0 : UInt64))
  else none
theorem ref02_times_q (k : Nat) (l : List UInt64) (x_1 : UInt64) : ref02_times k l x_1 = (if ((0 : Int) ≤ (w64 ((((List.length l) : Nat) : Int) + (2 : Int)))) ∧ (((w64 ((((List.length l) : Nat) : Int) + (2 : Int))) ≤ (w64 ((((List.length l) : Nat) : Int) + (2 : Int)))) ∧ ((((w64 ((((List.length l) : Nat) : Int) + (2 : Int))) * (((8 : Nat) : Nat) : Int)) ≤ (((70368744177664 : Nat) : Nat) : Int)) ∧ ((w64 ((((List.length l) : Nat) : Int) + (2 : Int))) ≤ ((2 : Int) ^ (62 : Nat))))) then
    ref02_times_h0 k l (x_1 &&& (4294967295 : UInt64)) (shr_u64 x_1 (32 : Nat)) (0 : Int) (List.replicate (Int.toNat (w64 ((((List.length l) : Nat) : Int) + (2 : Int)))) (0 : UInt64))
  else none) := by kernel_rfl
@[irreducible] def ref02_times_z (l : List UInt64) (x_1 : UInt64) : Option (List UInt64) := ref02_times 1000 l x_1
theorem ref02_times_z_eq (l : List UInt64) (x_1 : UInt64) : ref02_times_z l x_1 = ref02_times 1000 l x_1 := by kernel_rfl

end
end Go.Proofs.YtkjillpcmffgoaaDoor.M

namespace Go.Proofs.YtkjillpcmffgoaaDoor.M
open Go
noncomputable section
/-- the loop 2 of moneyer/moneyerref02.most -/
def ref02_most_h2 : Nat → UInt64 → Int → UInt64 → UInt64 → Int → (List UInt64) → Option (Bool)
  | 0, _, _, _, _, _, _ => none
  | k + 1, n, high, whole, rest, i, l => bif eqb (decide (i < high)) true then (bif bif true then (decide (i < (((List.length l) : Nat) : Int))) else false then (if ((0 : Int) ≤ i) ∧ (i < (((List.length l) : Nat) : Int)) then
          ref02_most_h2 k n high whole (rest ||| (List.getD l (Int.toNat i) (0 : UInt64))) (w64 (i + (1 : Int))) l
        else none)
        else (bif eqb (decide (whole < n)) false then (bif eqb (decide (whole = n)) true then (some (bif false then true else (bif true then (decide (rest = (0 : UInt64))) else false)))
            else (some false))
          else (some true)))
      else (bif eqb (decide (whole < n)) false then (bif eqb (decide (whole = n)) true then (some (bif false then true else (bif true then (decide (rest = (0 : UInt64))) else false)))
          else (some false))
        else (some true))
theorem ref02_most_h2_q (k : Nat) (n : UInt64) (high : Int) (whole : UInt64) (rest : UInt64) (i : Int) (l : List UInt64) : ref02_most_h2 (k + 1) n high whole rest i l =
  (bif eqb (decide (i < high)) true then (bif bif true then (decide (i < (((List.length l) : Nat) : Int))) else false then (if ((0 : Int) ≤ i) ∧ (i < (((List.length l) : Nat) : Int)) then
          ref02_most_h2 k n high whole (rest ||| (List.getD l (Int.toNat i) (0 : UInt64))) (w64 (i + (1 : Int))) l
        else none)
        else (bif eqb (decide (whole < n)) false then (bif eqb (decide (whole = n)) true then (some (bif false then true else (bif true then (decide (rest = (0 : UInt64))) else false)))
            else (some false))
          else (some true)))
      else (bif eqb (decide (whole < n)) false then (bif eqb (decide (whole = n)) true then (some (bif false then true else (bif true then (decide (rest = (0 : UInt64))) else false)))
          else (some false))
        else (some true))) := by kernel_rfl
/-- the loop 0 of moneyer/moneyerref02.most -/
def ref02_most_h0 : Nat → UInt64 → Int → UInt64 → Int → (List UInt64) → Option (Bool)
  | 0, _, _, _, _, _ => none
  | k + 1, n, high, whole, i, l => bif decide (high ≤ i) then (if ((0 : Int) ≤ i) ∧ (i < (((List.length l) : Nat) : Int)) then
        ref02_most_h0 k n high ((shl_u64 whole (32 : Nat)) ||| (List.getD l (Int.toNat i) (0 : UInt64))) (w64 (i - (1 : Int))) l
      else none)
      else (ref02_most_h2 k n high whole (0 : UInt64) (0 : Int) l)
theorem ref02_most_h0_q (k : Nat) (n : UInt64) (high : Int) (whole : UInt64) (i : Int) (l : List UInt64) : ref02_most_h0 (k + 1) n high whole i l =
  (bif decide (high ≤ i) then (if ((0 : Int) ≤ i) ∧ (i < (((List.length l) : Nat) : Int)) then
        ref02_most_h0 k n high ((shl_u64 whole (32 : Nat)) ||| (List.getD l (Int.toNat i) (0 : UInt64))) (w64 (i - (1 : Int))) l
      else none)
      else (ref02_most_h2 k n high whole (0 : UInt64) (0 : Int) l)) := by kernel_rfl
/-- moneyer/moneyerref02.most -/
def ref02_most (k : Nat) (x_0 : UInt64) (n : UInt64) (cube : Bool) : Option (Bool) :=
  if (Option.isSome (ref02_times_z ([(x_0 &&& (4294967295 : UInt64)), (shr_u64 x_0 (32 : Nat))] : List UInt64) x_0)) = true then
    bif cube then (if (Option.isSome (ref02_times_z (Option.get! (ref02_times_z ([(x_0 &&& (4294967295 : UInt64)), (shr_u64 x_0 (32 : Nat))] : List UInt64) x_0)) x_0)) = true then
        ref02_most_h0 k n (3 : Int) (0 : UInt64) (w64 ((((List.length (Option.get! (ref02_times_z (Option.get! (ref02_times_z ([(x_0 &&& (4294967295 : UInt64)), (shr_u64 x_0 (32 : Nat))] : List UInt64) x_0)) x_0))) : Nat) : Int) - (1 : Int))) (Option.get! (ref02_times_z (Option.get! (ref02_times_z ([(x_0 &&& (4294967295 : UInt64)), (shr_u64 x_0 (32 : Nat))] : List UInt64) x_0)) x_0))
      else none)
      else (ref02_most_h0 k n (2 : Int) (0 : UInt64) (w64 ((((List.length (Option.get! (ref02_times_z ([(x_0 &&& (4294967295 : UInt64)), (shr_u64 x_0 (32 : Nat))] : List UInt64) x_0))) : Nat) : Int) - (1 : Int))) (Option.get! (ref02_times_z ([(x_0 &&& (4294967295 : UInt64)), (shr_u64 x_0 (32 : Nat))] : List UInt64) x_0)))
  else none
theorem ref02_most_q (k : Nat) (x_0 : UInt64) (n : UInt64) (cube : Bool) : ref02_most k x_0 n cube = (if (Option.isSome (ref02_times_z ([(x_0 &&& (4294967295 : UInt64)), (shr_u64 x_0 (32 : Nat))] : List UInt64) x_0)) = true then
    bif cube then (if (Option.isSome (ref02_times_z (Option.get! (ref02_times_z ([(x_0 &&& (4294967295 : UInt64)), (shr_u64 x_0 (32 : Nat))] : List UInt64) x_0)) x_0)) = true then
        ref02_most_h0 k n (3 : Int) (0 : UInt64) (w64 ((((List.length (Option.get! (ref02_times_z (Option.get! (ref02_times_z ([(x_0 &&& (4294967295 : UInt64)), (shr_u64 x_0 (32 : Nat))] : List UInt64) x_0)) x_0))) : Nat) : Int) - (1 : Int))) (Option.get! (ref02_times_z (Option.get! (ref02_times_z ([(x_0 &&& (4294967295 : UInt64)), (shr_u64 x_0 (32 : Nat))] : List UInt64) x_0)) x_0))
      else none)
      else (ref02_most_h0 k n (2 : Int) (0 : UInt64) (w64 ((((List.length (Option.get! (ref02_times_z ([(x_0 &&& (4294967295 : UInt64)), (shr_u64 x_0 (32 : Nat))] : List UInt64) x_0))) : Nat) : Int) - (1 : Int))) (Option.get! (ref02_times_z ([(x_0 &&& (4294967295 : UInt64)), (shr_u64 x_0 (32 : Nat))] : List UInt64) x_0)))
  else none) := by kernel_rfl
@[irreducible] def ref02_most_z (x_0 : UInt64) (n : UInt64) (cube : Bool) : Option (Bool) := ref02_most 1000 x_0 n cube
theorem ref02_most_z_eq (x_0 : UInt64) (n : UInt64) (cube : Bool) : ref02_most_z x_0 n cube = ref02_most 1000 x_0 n cube := by kernel_rfl

end
end Go.Proofs.YtkjillpcmffgoaaDoor.M

namespace Go.Proofs.YtkjillpcmffgoaaDoor.M
open Go
noncomputable section
/-- the loop 0 of moneyer/moneyerref02.part -/
def ref02_part_h0 : Nat → UInt64 → Bool → UInt64 → Int → Option (UInt32)
  | 0, _, _, _, _ => none
  | k + 1, n, cube, x_, bit => bif decide ((0 : Int) ≤ bit) then (if (Option.isSome (ref02_most_z (x_ ||| (shl_u64 (1 : UInt64) (UInt64.toNat (UInt64.ofInt bit)))) n cube)) = true then
        bif Option.get! (ref02_most_z (x_ ||| (shl_u64 (1 : UInt64) (UInt64.toNat (UInt64.ofInt bit)))) n cube) then (ref02_part_h0 k n cube (x_ ||| (shl_u64 (1 : UInt64) (UInt64.toNat (UInt64.ofInt bit)))) (w64 (bit - (1 : Int))))
          else (ref02_part_h0 k n cube x_ (w64 (bit - (1 : Int))))
      else none)
      else (some (UInt64.toUInt32 x_))
theorem ref02_part_h0_q (k : Nat) (n : UInt64) (cube : Bool) (x_ : UInt64) (bit : Int) : ref02_part_h0 (k + 1) n cube x_ bit =
  (bif decide ((0 : Int) ≤ bit) then (if (Option.isSome (ref02_most_z (x_ ||| (shl_u64 (1 : UInt64) (UInt64.toNat (UInt64.ofInt bit)))) n cube)) = true then
        bif Option.get! (ref02_most_z (x_ ||| (shl_u64 (1 : UInt64) (UInt64.toNat (UInt64.ofInt bit)))) n cube) then (ref02_part_h0 k n cube (x_ ||| (shl_u64 (1 : UInt64) (UInt64.toNat (UInt64.ofInt bit)))) (w64 (bit - (1 : Int))))
          else (ref02_part_h0 k n cube x_ (w64 (bit - (1 : Int))))
      else none)
      else (some (UInt64.toUInt32 x_))) := by kernel_rfl
/-- moneyer/moneyerref02.part -/
def ref02_part (k : Nat) (n : UInt64) (cube : Bool) : Option (UInt32) :=
  ref02_part_h0 k n cube (0 : UInt64) (39 : Int)
theorem ref02_part_q (k : Nat) (n : UInt64) (cube : Bool) : ref02_part k n cube = (ref02_part_h0 k n cube (0 : UInt64) (39 : Int)) := by kernel_rfl
@[irreducible] def ref02_part_z (n : UInt64) (cube : Bool) : Option (UInt32) := ref02_part 1000 n cube
theorem ref02_part_z_eq (n : UInt64) (cube : Bool) : ref02_part_z n cube = ref02_part 1000 n cube := by kernel_rfl

end
end Go.Proofs.YtkjillpcmffgoaaDoor.M

namespace Go.Proofs.YtkjillpcmffgoaaDoor.M
open Go
noncomputable section
set_option maxRecDepth 100000
noncomputable def ref02_prime_T : Tbl := []
noncomputable def ref02_prime_C : CfgW := mkC Tryd.prog theG ref02_prime_T 17 0
def ref02_prime_lv : Nat → List Nat := fun i => bif Nat.beq i 0 then [0, 3] else []
noncomputable abbrev ref02_prime_b : Code := Tryd.f62.body.getD .skip
noncomputable abbrev ref02_prime_r : List ResultVar := Tryd.f62.results.toList
def ref02_prime_hs : List Nat := []

def ref02_prime_enc (r : Bool) : CallOut := ⟨.pv (.sc .b r), [], true, []⟩
def ref02_prime_s0 (n : UInt64) (i : UInt64) : St := ⟨[(0, .pv (.sc .u64 n)), (3, .pv (.sc .u64 i))], []⟩
theorem ref02_prime_g0 (n : UInt64) (i : UInt64) (Q : CallOut → Prop) : headRound ref02_prime_C ref02_prime_lv [true, false, true, false] ref02_prime_b (ref02_prime_s0 n i) (fnK ref02_prime_C ref02_prime_r ref02_prime_hs Q) =
    (condP (decide ((i * i) ≤ n)) ((i ≠ (0 : UInt64)) ∧ (condP (decide ((n % i) = (0 : UInt64))) (Q (ref02_prime_enc false)) (headP ref02_prime_C ref02_prime_lv [true, false, true, false] ref02_prime_b (ref02_prime_s0 n (i + (1 : UInt64))) (fnK ref02_prime_C ref02_prime_r ref02_prime_hs Q)))) (Q (ref02_prime_enc (decide ((1 : UInt64) < n))))) := by kernel_rfl
theorem ref02_prime_k0 {r : Bool} {Q : CallOut → Prop} (hQ : Q (ref02_prime_enc r)) : ∀ k : Nat, (∀ (n : UInt64) (i : UInt64), ref02_prime_h0 k n i = some r → headP ref02_prime_C ref02_prime_lv [true, false, true, false] ref02_prime_b (ref02_prime_s0 n i) (fnK ref02_prime_C ref02_prime_r ref02_prime_hs Q))
  | 0 => fun _ _ h => no_ok h
  | k + 1 => fun n i h => headP_step (Eq.mpr (ref02_prime_g0 n i Q) (have h := (ref02_prime_h0_q k n i).symm.trans h; cond_ok h (fun h => ite_ok h fun hc0 h => cond_ok h (fun h => ret_ok (Q := Q) (e := ref02_prime_enc) h hQ) (fun h => (ref02_prime_k0 hQ k) _ _ h)) (fun h => ret_ok (Q := Q) (e := ref02_prime_enc) h hQ)))
theorem ref02_prime_e (n : UInt64) (Q : CallOut → Prop) : evalFnP ref02_prime_C ref02_prime_lv ref02_prime_r ref02_prime_hs ref02_prime_b [.pv (.sc .u64 n)] [] Q =
    (headP ref02_prime_C ref02_prime_lv [true, false, true, false] ref02_prime_b (ref02_prime_s0 n (2 : UInt64)) (fnK ref02_prime_C ref02_prime_r ref02_prime_hs Q)) := by kernel_rfl
theorem ref02_prime_w {k : Nat} (n : UInt64) {r} {Q : CallOut → Prop} (h : ref02_prime k n = some r) (hQ : Q (ref02_prime_enc r)) : evalFnP ref02_prime_C ref02_prime_lv ref02_prime_r ref02_prime_hs ref02_prime_b [.pv (.sc .u64 n)] [] Q :=
  Eq.mpr (ref02_prime_e n Q) (have h := (ref02_prime_q k n).symm.trans h; (ref02_prime_k0 hQ _) _ _ h)
def ref02_prime_c : Ans
  | [.pv (.sc .u64 n)], [] => some (some ((ref02_prime_z n).isSome = true), ref02_prime_enc ((ref02_prime_z n).get!))
  | _, _ => none
theorem ref02_prime_tok : TblOK Tryd.prog theG ref02_prime_T := .nil
theorem ref02_prime_ok : FnOK Tryd.prog theG 62 (unW ref02_prime_c) := by
  refine FnOK.ofC (T := ref02_prime_T) (nt := 17) (np := 0) (hs := ref02_prime_hs) (fn := Tryd.f62) (body := ref02_prime_b) ref02_prime_tok (by kernel_rfl) (by kernel_rfl) (by kernel_rfl) (by kernel_rfl) (c := ref02_prime_c) (lv := ref02_prime_lv) ?_
  intro xs mem p out h hp
  unfold ref02_prime_c at h
  split at h
  · cases h
    exact ref02_prime_w (k := 1000) _ ((ref02_prime_z_eq _).symm.trans (some_get hp)) rfl
  · cases h
end
end Go.Proofs.YtkjillpcmffgoaaDoor.M

namespace Go.Proofs.YtkjillpcmffgoaaDoor.M
open Go
noncomputable section
set_option maxRecDepth 100000
noncomputable def ref02_primes_T : Tbl := [(62, [], ref02_prime_c)]
noncomputable def ref02_primes_C : CfgW := mkC Tryd.prog theG ref02_primes_T 18 0
def ref02_primes_lv : Nat → List Nat := fun i => bif Nat.beq i 0 then [0, 3, 4] else []
noncomputable abbrev ref02_primes_b : Code := Tryd.f53.body.getD .skip
noncomputable abbrev ref02_primes_r : List ResultVar := Tryd.f53.results.toList
def ref02_primes_hs : List Nat := []

def ref02_primes_enc (r : List UInt64) : CallOut := ⟨.o 60000, [(60000, .row (.s .u64 r) false)], true, []⟩
def ref02_primes_s0 (many : Int) (n : UInt64) (out : List UInt64) : St := ⟨[(0, .pv (.sc .i many)), (3, .o 60000), (4, .pv (.sc .u64 n))], [(60000, .row (.s .u64 out) false)]⟩
theorem ref02_primes_g0 (many : Int) (n : UInt64) (out : List UInt64) (Q : CallOut → Prop) : headRound ref02_primes_C ref02_primes_lv [true, true, false, true, false] ref02_primes_b (ref02_primes_s0 many n out) (fnK ref02_primes_C ref02_primes_r ref02_primes_hs Q) =
    (condP (decide ((((List.length out) : Nat) : Int) < many)) (((Option.isSome (ref02_prime_z n)) = true) ∧ (condP (Option.get! (ref02_prime_z n)) (((((List.length (out ++ ([n] : List UInt64))) * (8 : Nat)) ≤ (70368744177664 : Nat)) ∧ ((List.length (out ++ ([n] : List UInt64))) ≤ (70368744177664 : Nat))) ∧ (headP ref02_primes_C ref02_primes_lv [true, true, false, true, false] ref02_primes_b (ref02_primes_s0 many (n + (1 : UInt64)) (out ++ ([n] : List UInt64))) (fnK ref02_primes_C ref02_primes_r ref02_primes_hs Q))) (headP ref02_primes_C ref02_primes_lv [true, true, false, true, false] ref02_primes_b (ref02_primes_s0 many (n + (1 : UInt64)) out) (fnK ref02_primes_C ref02_primes_r ref02_primes_hs Q)))) (Q (ref02_primes_enc out))) := by kernel_rfl
theorem ref02_primes_k0 {r : List UInt64} {Q : CallOut → Prop} (hQ : Q (ref02_primes_enc r)) : ∀ k : Nat, (∀ (many : Int) (n : UInt64) (out : List UInt64), ref02_primes_h0 k many n out = some r → headP ref02_primes_C ref02_primes_lv [true, true, false, true, false] ref02_primes_b (ref02_primes_s0 many n out) (fnK ref02_primes_C ref02_primes_r ref02_primes_hs Q))
  | 0 => fun _ _ _ h => no_ok h
  | k + 1 => fun many n out h => headP_step (Eq.mpr (ref02_primes_g0 many n out Q) (have h := (ref02_primes_h0_q k many n out).symm.trans h; cond_ok h (fun h => ite_ok h fun hc0 h => cond_ok h (fun h => ite_ok h fun hc1 h => (ref02_primes_k0 hQ k) _ _ _ h) (fun h => (ref02_primes_k0 hQ k) _ _ _ h)) (fun h => ret_ok (Q := Q) (e := ref02_primes_enc) h hQ)))
theorem ref02_primes_e (many : Int) (Q : CallOut → Prop) : evalFnP ref02_primes_C ref02_primes_lv ref02_primes_r ref02_primes_hs ref02_primes_b [.pv (.sc .i many)] [] Q =
    (headP ref02_primes_C ref02_primes_lv [true, true, false, true, false] ref02_primes_b (ref02_primes_s0 many (2 : UInt64) ([] : List UInt64)) (fnK ref02_primes_C ref02_primes_r ref02_primes_hs Q)) := by kernel_rfl
theorem ref02_primes_w {k : Nat} (many : Int) {r} {Q : CallOut → Prop} (h : ref02_primes k many = some r) (hQ : Q (ref02_primes_enc r)) : evalFnP ref02_primes_C ref02_primes_lv ref02_primes_r ref02_primes_hs ref02_primes_b [.pv (.sc .i many)] [] Q :=
  Eq.mpr (ref02_primes_e many Q) (have h := (ref02_primes_q k many).symm.trans h; (ref02_primes_k0 hQ _) _ _ _ h)
def ref02_primes_c : Ans
  | [.pv (.sc .i many)], [] => some (some ((ref02_primes_z many).isSome = true), ref02_primes_enc ((ref02_primes_z many).get!))
  | _, _ => none
theorem ref02_primes_tok : TblOK Tryd.prog theG ref02_primes_T := .cons ⟨by kernel_rfl, ref02_prime_ok⟩ (.nil)
theorem ref02_primes_ok : FnOK Tryd.prog theG 53 (unW ref02_primes_c) := by
  refine FnOK.ofC (T := ref02_primes_T) (nt := 18) (np := 0) (hs := ref02_primes_hs) (fn := Tryd.f53) (body := ref02_primes_b) ref02_primes_tok (by kernel_rfl) (by kernel_rfl) (by kernel_rfl) (by kernel_rfl) (c := ref02_primes_c) (lv := ref02_primes_lv) ?_
  intro xs mem p out h hp
  unfold ref02_primes_c at h
  split at h
  · cases h
    exact ref02_primes_w (k := 1000) _ ((ref02_primes_z_eq _).symm.trans (some_get hp)) rfl
  · cases h
end
end Go.Proofs.YtkjillpcmffgoaaDoor.M

namespace Go.Proofs.YtkjillpcmffgoaaDoor.M
open Go
noncomputable section
set_option maxRecDepth 100000
noncomputable def ref02_add_T : Tbl := []
noncomputable def ref02_add_C : CfgW := mkC Tryd.prog theG ref02_add_T 38 1
def ref02_add_lv : Nat → List Nat := fun i => bif Nat.beq i 0 then [0, 6, 7] else []
noncomputable abbrev ref02_add_b : Code := Tryd.f66.body.getD .skip
noncomputable abbrev ref02_add_r : List ResultVar := Tryd.f66.results.toList
def ref02_add_hs : List Nat := [0]

def ref02_add_enc (r : List UInt64) : CallOut := ⟨.tup [], [(60000, .row (.s .u64 r) false)], true, [(0, .o 60000)]⟩
def ref02_add_s0 (carry : UInt64) (i : Int) (l : List UInt64) : St := ⟨[(0, .o 60000), (6, .pv (.sc .u64 carry)), (7, .pv (.sc .i i))], [(60000, .row (.s .u64 l) false)]⟩
theorem ref02_add_g0 (carry : UInt64) (i : Int) (l : List UInt64) (Q : CallOut → Prop) : headRound ref02_add_C ref02_add_lv [true, true, false] ref02_add_b (ref02_add_s0 carry i l) (fnK ref02_add_C ref02_add_r ref02_add_hs Q) =
    (condP (eqb (decide (i < (((List.length l) : Nat) : Int))) true) (condP (bif true then (decide ((0 : UInt64) < carry)) else false) ((((0 : Int) ≤ i) ∧ (i < (((List.length l) : Nat) : Int))) ∧ ((((0 : Int) ≤ i) ∧ (i < (((List.length l) : Nat) : Int))) ∧ (headP ref02_add_C ref02_add_lv [true, true, false] ref02_add_b (ref02_add_s0 ((shr_u64 carry (32 : Nat)) + (shr_u64 ((List.getD l (Int.toNat i) (0 : UInt64)) + (carry &&& (4294967295 : UInt64))) (32 : Nat))) (w64 (i + (1 : Int))) (List.set l (Int.toNat i) (((List.getD l (Int.toNat i) (0 : UInt64)) + (carry &&& (4294967295 : UInt64))) &&& (4294967295 : UInt64)))) (fnK ref02_add_C ref02_add_r ref02_add_hs Q)))) (Q (ref02_add_enc l))) (Q (ref02_add_enc l))) := by kernel_rfl
theorem ref02_add_k0 {r : List UInt64} {Q : CallOut → Prop} (hQ : Q (ref02_add_enc r)) : ∀ k : Nat, (∀ (carry : UInt64) (i : Int) (l : List UInt64), ref02_add_h0 k carry i l = some r → headP ref02_add_C ref02_add_lv [true, true, false] ref02_add_b (ref02_add_s0 carry i l) (fnK ref02_add_C ref02_add_r ref02_add_hs Q))
  | 0 => fun _ _ _ h => no_ok h
  | k + 1 => fun carry i l h => headP_step (Eq.mpr (ref02_add_g0 carry i l Q) (have h := (ref02_add_h0_q k carry i l).symm.trans h; cond_ok h (fun h => cond_ok h (fun h => ite_ok h fun hc0 h => ⟨hc0, (ref02_add_k0 hQ k) _ _ _ h⟩) (fun h => ret_ok (Q := Q) (e := ref02_add_enc) h hQ)) (fun h => ret_ok (Q := Q) (e := ref02_add_enc) h hQ)))
theorem ref02_add_e (l : List UInt64) (at_1 : Int) (n : UInt64) (Q : CallOut → Prop) : evalFnP ref02_add_C ref02_add_lv ref02_add_r ref02_add_hs ref02_add_b [.o 60000, .pv (.sc .i at_1), .pv (.sc .u64 n)] [(60000, .row (.s .u64 l) false)] Q =
    (headP ref02_add_C ref02_add_lv [true, true, false] ref02_add_b (ref02_add_s0 n at_1 l) (fnK ref02_add_C ref02_add_r ref02_add_hs Q)) := by kernel_rfl
theorem ref02_add_w {k : Nat} (l : List UInt64) (at_1 : Int) (n : UInt64) {r} {Q : CallOut → Prop} (h : ref02_add k l at_1 n = some r) (hQ : Q (ref02_add_enc r)) : evalFnP ref02_add_C ref02_add_lv ref02_add_r ref02_add_hs ref02_add_b [.o 60000, .pv (.sc .i at_1), .pv (.sc .u64 n)] [(60000, .row (.s .u64 l) false)] Q :=
  Eq.mpr (ref02_add_e l at_1 n Q) (have h := (ref02_add_q k l at_1 n).symm.trans h; (ref02_add_k0 hQ _) _ _ _ h)
def ref02_add_c : Ans
  | [.o 60000, .pv (.sc .i at_1), .pv (.sc .u64 n)], [(60000, .row (.s .u64 l) false)] => some (some ((ref02_add_z l at_1 n).isSome = true), ref02_add_enc ((ref02_add_z l at_1 n).get!))
  | _, _ => none
theorem ref02_add_tok : TblOK Tryd.prog theG ref02_add_T := .nil
theorem ref02_add_ok : FnOK Tryd.prog theG 66 (unW ref02_add_c) := by
  refine FnOK.ofC (T := ref02_add_T) (nt := 38) (np := 1) (hs := ref02_add_hs) (fn := Tryd.f66) (body := ref02_add_b) ref02_add_tok (by kernel_rfl) (by kernel_rfl) (by kernel_rfl) (by kernel_rfl) (c := ref02_add_c) (lv := ref02_add_lv) ?_
  intro xs mem p out h hp
  unfold ref02_add_c at h
  split at h
  · cases h
    exact ref02_add_w (k := 1000) _ _ _ ((ref02_add_z_eq _ _ _).symm.trans (some_get hp)) rfl
  · cases h
end
end Go.Proofs.YtkjillpcmffgoaaDoor.M

namespace Go.Proofs.YtkjillpcmffgoaaDoor.M
open Go
noncomputable section
set_option maxRecDepth 100000
noncomputable def ref02_times_T : Tbl := [(66, [true, false, false], ref02_add_c)]
noncomputable def ref02_times_C : CfgW := mkC Tryd.prog theG ref02_times_T 43 0
def ref02_times_lv : Nat → List Nat := fun i => bif Nat.beq i 0 then [0, 5, 6, 7, 8] else []
noncomputable abbrev ref02_times_b : Code := Tryd.f65.body.getD .skip
noncomputable abbrev ref02_times_r : List ResultVar := Tryd.f65.results.toList
def ref02_times_hs : List Nat := []

def ref02_times_enc (r : List UInt64) : CallOut := ⟨.o 60000, [(60000, .row (.s .u64 r) true)], true, []⟩
def ref02_times_s0 (l : List UInt64) (lo : UInt64) (hi : UInt64) (i : Int) (out : List UInt64) : St := ⟨[(0, .pv (.sl .u64 l)), (5, .o 60000), (6, .pv (.sc .u64 lo)), (7, .pv (.sc .u64 hi)), (8, .pv (.sc .i i))], [(60000, .row (.s .u64 out) true)]⟩
theorem ref02_times_g0 (l : List UInt64) (lo : UInt64) (hi : UInt64) (i : Int) (out : List UInt64) (Q : CallOut → Prop) : headRound ref02_times_C ref02_times_lv [true, true, true, false, true, false] ref02_times_b (ref02_times_s0 l lo hi i out) (fnK ref02_times_C ref02_times_r ref02_times_hs Q) =
    (condP (decide (i < (((List.length l) : Nat) : Int))) ((((0 : Int) ≤ i) ∧ (i < (((List.length l) : Nat) : Int))) ∧ (((Option.isSome (ref02_add_z out i ((List.getD l (Int.toNat i) (0 : UInt64)) * lo))) = true) ∧ ((((0 : Int) ≤ i) ∧ (i < (((List.length l) : Nat) : Int))) ∧ (((Option.isSome (ref02_add_z (Option.get! (ref02_add_z out i ((List.getD l (Int.toNat i) (0 : UInt64)) * lo))) (w64 (i + (1 : Int))) ((List.getD l (Int.toNat i) (0 : UInt64)) * hi))) = true) ∧ (headP ref02_times_C ref02_times_lv [true, true, true, false, true, false] ref02_times_b (ref02_times_s0 l lo hi (w64 (i + (1 : Int))) (Option.get! (ref02_add_z (Option.get! (ref02_add_z out i ((List.getD l (Int.toNat i) (0 : UInt64)) * lo))) (w64 (i + (1 : Int))) ((List.getD l (Int.toNat i) (0 : UInt64)) * hi)))) (fnK ref02_times_C ref02_times_r ref02_times_hs Q)))))) (Q (ref02_times_enc out))) := by kernel_rfl
theorem ref02_times_k0 {r : List UInt64} {Q : CallOut → Prop} (hQ : Q (ref02_times_enc r)) : ∀ k : Nat, (∀ (l : List UInt64) (lo : UInt64) (hi : UInt64) (i : Int) (out : List UInt64), ref02_times_h0 k l lo hi i out = some r → headP ref02_times_C ref02_times_lv [true, true, true, false, true, false] ref02_times_b (ref02_times_s0 l lo hi i out) (fnK ref02_times_C ref02_times_r ref02_times_hs Q))
  | 0 => fun _ _ _ _ _ h => no_ok h
  | k + 1 => fun l lo hi i out h => headP_step (Eq.mpr (ref02_times_g0 l lo hi i out Q) (have h := (ref02_times_h0_q k l lo hi i out).symm.trans h; cond_ok h (fun h => ite_ok h fun hc0 h => ite_ok h fun hc1 h => ⟨hc0, ite_ok h fun hc2 h => (ref02_times_k0 hQ k) _ _ _ _ _ h⟩) (fun h => ret_ok (Q := Q) (e := ref02_times_enc) h hQ)))
theorem ref02_times_e (l : List UInt64) (x_1 : UInt64) (Q : CallOut → Prop) : evalFnP ref02_times_C ref02_times_lv ref02_times_r ref02_times_hs ref02_times_b [.pv (.sl .u64 l), .pv (.sc .u64 x_1)] [] Q =
    ((((0 : Int) ≤ (w64 ((((List.length l) : Nat) : Int) + (2 : Int)))) ∧ (((w64 ((((List.length l) : Nat) : Int) + (2 : Int))) ≤ (w64 ((((List.length l) : Nat) : Int) + (2 : Int)))) ∧ ((((w64 ((((List.length l) : Nat) : Int) + (2 : Int))) * (((8 : Nat) : Nat) : Int)) ≤ (((70368744177664 : Nat) : Nat) : Int)) ∧ ((w64 ((((List.length l) : Nat) : Int) + (2 : Int))) ≤ ((2 : Int) ^ (62 : Nat)))))) ∧ (headP ref02_times_C ref02_times_lv [true, true, true, false, true, false] ref02_times_b (ref02_times_s0 l (x_1 &&& (4294967295 : UInt64)) (shr_u64 x_1 (32 : Nat)) (0 : Int) (List.replicate (Int.toNat (w64 ((((List.length l) : Nat) : Int) + (2 : Int)))) (0 : UInt64))) (fnK ref02_times_C ref02_times_r ref02_times_hs Q))) := by kernel_rfl
theorem ref02_times_w {k : Nat} (l : List UInt64) (x_1 : UInt64) {r} {Q : CallOut → Prop} (h : ref02_times k l x_1 = some r) (hQ : Q (ref02_times_enc r)) : evalFnP ref02_times_C ref02_times_lv ref02_times_r ref02_times_hs ref02_times_b [.pv (.sl .u64 l), .pv (.sc .u64 x_1)] [] Q :=
  Eq.mpr (ref02_times_e l x_1 Q) (have h := (ref02_times_q k l x_1).symm.trans h; ite_ok h fun hc0 h => (ref02_times_k0 hQ _) _ _ _ _ _ h)
def ref02_times_c : Ans
  | [.pv (.sl .u64 l), .pv (.sc .u64 x_1)], [] => some (some ((ref02_times_z l x_1).isSome = true), ref02_times_enc ((ref02_times_z l x_1).get!))
  | _, _ => none
theorem ref02_times_tok : TblOK Tryd.prog theG ref02_times_T := .cons ⟨by kernel_rfl, ref02_add_ok⟩ (.nil)
theorem ref02_times_ok : FnOK Tryd.prog theG 65 (unW ref02_times_c) := by
  refine FnOK.ofC (T := ref02_times_T) (nt := 43) (np := 0) (hs := ref02_times_hs) (fn := Tryd.f65) (body := ref02_times_b) ref02_times_tok (by kernel_rfl) (by kernel_rfl) (by kernel_rfl) (by kernel_rfl) (c := ref02_times_c) (lv := ref02_times_lv) ?_
  intro xs mem p out h hp
  unfold ref02_times_c at h
  split at h
  · cases h
    exact ref02_times_w (k := 1000) _ _ ((ref02_times_z_eq _ _).symm.trans (some_get hp)) rfl
  · cases h
end
end Go.Proofs.YtkjillpcmffgoaaDoor.M

namespace Go.Proofs.YtkjillpcmffgoaaDoor.M
open Go
noncomputable section
set_option maxRecDepth 100000
noncomputable def ref02_most_T : Tbl := [(65, [], ref02_times_c)]
noncomputable def ref02_most_C : CfgW := mkC Tryd.prog theG ref02_most_T 68 0
def ref02_most_lv : Nat → List Nat := fun i => bif Nat.beq i 2 then [1, 7, 8, 9, 11, 12] else bif Nat.beq i 0 then [1, 7, 8, 9, 10] else []
noncomputable abbrev ref02_most_b : Code := Tryd.f63.body.getD .skip
noncomputable abbrev ref02_most_r : List ResultVar := Tryd.f63.results.toList
def ref02_most_hs : List Nat := []

def ref02_most_enc (r : Bool) : CallOut := ⟨.pv (.sc .b r), [], true, []⟩
def ref02_most_s0 (n : UInt64) (high : Int) (whole : UInt64) (i : Int) (l : List UInt64) : St := ⟨[(1, .pv (.sc .u64 n)), (7, .o 60000), (8, .pv (.sc .i high)), (9, .pv (.sc .u64 whole)), (10, .pv (.sc .i i))], [(60000, .row (.s .u64 l) true)]⟩
def ref02_most_s2 (n : UInt64) (high : Int) (whole : UInt64) (rest : UInt64) (i : Int) (l : List UInt64) : St := ⟨[(1, .pv (.sc .u64 n)), (7, .o 60000), (8, .pv (.sc .i high)), (9, .pv (.sc .u64 whole)), (11, .pv (.sc .u64 rest)), (12, .pv (.sc .i i))], [(60000, .row (.s .u64 l) true)]⟩
theorem ref02_most_g0 (n : UInt64) (high : Int) (whole : UInt64) (i : Int) (l : List UInt64) (Q : CallOut → Prop) : headRound ref02_most_C ref02_most_lv [true, true, true, true, true, false, true, false] ref02_most_b (ref02_most_s0 n high whole i l) (fnK ref02_most_C ref02_most_r ref02_most_hs Q) =
    (condP (decide (high ≤ i)) ((((0 : Int) ≤ i) ∧ (i < (((List.length l) : Nat) : Int))) ∧ (headP ref02_most_C ref02_most_lv [true, true, true, true, true, false, true, false] ref02_most_b (ref02_most_s0 n high ((shl_u64 whole (32 : Nat)) ||| (List.getD l (Int.toNat i) (0 : UInt64))) (w64 (i - (1 : Int))) l) (fnK ref02_most_C ref02_most_r ref02_most_hs Q))) (headP ref02_most_C ref02_most_lv [true, true, true, true, true, true, true, false, true, false] ref02_most_b (ref02_most_s2 n high whole (0 : UInt64) (0 : Int) l) (fnK ref02_most_C ref02_most_r ref02_most_hs Q))) := by kernel_rfl
theorem ref02_most_g2 (n : UInt64) (high : Int) (whole : UInt64) (rest : UInt64) (i : Int) (l : List UInt64) (Q : CallOut → Prop) : headRound ref02_most_C ref02_most_lv [true, true, true, true, true, true, true, false, true, false] ref02_most_b (ref02_most_s2 n high whole rest i l) (fnK ref02_most_C ref02_most_r ref02_most_hs Q) =
    (condP (eqb (decide (i < high)) true) (condP (bif true then (decide (i < (((List.length l) : Nat) : Int))) else false) ((((0 : Int) ≤ i) ∧ (i < (((List.length l) : Nat) : Int))) ∧ (headP ref02_most_C ref02_most_lv [true, true, true, true, true, true, true, false, true, false] ref02_most_b (ref02_most_s2 n high whole (rest ||| (List.getD l (Int.toNat i) (0 : UInt64))) (w64 (i + (1 : Int))) l) (fnK ref02_most_C ref02_most_r ref02_most_hs Q))) (condP (eqb (decide (whole < n)) false) (condP (eqb (decide (whole = n)) true) (Q (ref02_most_enc (bif false then true else (bif true then (decide (rest = (0 : UInt64))) else false)))) (Q (ref02_most_enc false))) (Q (ref02_most_enc true)))) (condP (eqb (decide (whole < n)) false) (condP (eqb (decide (whole = n)) true) (Q (ref02_most_enc (bif false then true else (bif true then (decide (rest = (0 : UInt64))) else false)))) (Q (ref02_most_enc false))) (Q (ref02_most_enc true)))) := by kernel_rfl
theorem ref02_most_k2 {r : Bool} {Q : CallOut → Prop} (hQ : Q (ref02_most_enc r)) : ∀ k : Nat, (∀ (n : UInt64) (high : Int) (whole : UInt64) (rest : UInt64) (i : Int) (l : List UInt64), ref02_most_h2 k n high whole rest i l = some r → headP ref02_most_C ref02_most_lv [true, true, true, true, true, true, true, false, true, false] ref02_most_b (ref02_most_s2 n high whole rest i l) (fnK ref02_most_C ref02_most_r ref02_most_hs Q))
  | 0 => fun _ _ _ _ _ _ h => no_ok h
  | k + 1 => fun n high whole rest i l h => headP_step (Eq.mpr (ref02_most_g2 n high whole rest i l Q) (have h := (ref02_most_h2_q k n high whole rest i l).symm.trans h; cond_ok h (fun h => cond_ok h (fun h => ite_ok h fun hc0 h => (ref02_most_k2 hQ k) _ _ _ _ _ _ h) (fun h => cond_ok h (fun h => cond_ok h (fun h => ret_ok (Q := Q) (e := ref02_most_enc) h hQ) (fun h => ret_ok (Q := Q) (e := ref02_most_enc) h hQ)) (fun h => ret_ok (Q := Q) (e := ref02_most_enc) h hQ))) (fun h => cond_ok h (fun h => cond_ok h (fun h => ret_ok (Q := Q) (e := ref02_most_enc) h hQ) (fun h => ret_ok (Q := Q) (e := ref02_most_enc) h hQ)) (fun h => ret_ok (Q := Q) (e := ref02_most_enc) h hQ))))
theorem ref02_most_k0 {r : Bool} {Q : CallOut → Prop} (hQ : Q (ref02_most_enc r)) : ∀ k : Nat, (∀ (n : UInt64) (high : Int) (whole : UInt64) (i : Int) (l : List UInt64), ref02_most_h0 k n high whole i l = some r → headP ref02_most_C ref02_most_lv [true, true, true, true, true, false, true, false] ref02_most_b (ref02_most_s0 n high whole i l) (fnK ref02_most_C ref02_most_r ref02_most_hs Q))
  | 0 => fun _ _ _ _ _ h => no_ok h
  | k + 1 => fun n high whole i l h => headP_step (Eq.mpr (ref02_most_g0 n high whole i l Q) (have h := (ref02_most_h0_q k n high whole i l).symm.trans h; cond_ok h (fun h => ite_ok h fun hc0 h => (ref02_most_k0 hQ k) _ _ _ _ _ h) (fun h => (ref02_most_k2 hQ _) _ _ _ _ _ _ h)))
theorem ref02_most_e (x_0 : UInt64) (n : UInt64) (cube : Bool) (Q : CallOut → Prop) : evalFnP ref02_most_C ref02_most_lv ref02_most_r ref02_most_hs ref02_most_b [.pv (.sc .u64 x_0), .pv (.sc .u64 n), .pv (.sc .b cube)] [] Q =
    (((Option.isSome (ref02_times_z ([(x_0 &&& (4294967295 : UInt64)), (shr_u64 x_0 (32 : Nat))] : List UInt64) x_0)) = true) ∧ (condP cube (((Option.isSome (ref02_times_z (Option.get! (ref02_times_z ([(x_0 &&& (4294967295 : UInt64)), (shr_u64 x_0 (32 : Nat))] : List UInt64) x_0)) x_0)) = true) ∧ (headP ref02_most_C ref02_most_lv [true, true, true, true, true, false, true, false] ref02_most_b (ref02_most_s0 n (3 : Int) (0 : UInt64) (w64 ((((List.length (Option.get! (ref02_times_z (Option.get! (ref02_times_z ([(x_0 &&& (4294967295 : UInt64)), (shr_u64 x_0 (32 : Nat))] : List UInt64) x_0)) x_0))) : Nat) : Int) - (1 : Int))) (Option.get! (ref02_times_z (Option.get! (ref02_times_z ([(x_0 &&& (4294967295 : UInt64)), (shr_u64 x_0 (32 : Nat))] : List UInt64) x_0)) x_0))) (fnK ref02_most_C ref02_most_r ref02_most_hs Q))) (headP ref02_most_C ref02_most_lv [true, true, true, true, true, false, true, false] ref02_most_b (ref02_most_s0 n (2 : Int) (0 : UInt64) (w64 ((((List.length (Option.get! (ref02_times_z ([(x_0 &&& (4294967295 : UInt64)), (shr_u64 x_0 (32 : Nat))] : List UInt64) x_0))) : Nat) : Int) - (1 : Int))) (Option.get! (ref02_times_z ([(x_0 &&& (4294967295 : UInt64)), (shr_u64 x_0 (32 : Nat))] : List UInt64) x_0))) (fnK ref02_most_C ref02_most_r ref02_most_hs Q)))) := by kernel_rfl
theorem ref02_most_w {k : Nat} (x_0 : UInt64) (n : UInt64) (cube : Bool) {r} {Q : CallOut → Prop} (h : ref02_most k x_0 n cube = some r) (hQ : Q (ref02_most_enc r)) : evalFnP ref02_most_C ref02_most_lv ref02_most_r ref02_most_hs ref02_most_b [.pv (.sc .u64 x_0), .pv (.sc .u64 n), .pv (.sc .b cube)] [] Q :=
  Eq.mpr (ref02_most_e x_0 n cube Q) (have h := (ref02_most_q k x_0 n cube).symm.trans h; ite_ok h fun hc0 h => cond_ok h (fun h => ite_ok h fun hc1 h => (ref02_most_k0 hQ _) _ _ _ _ _ h) (fun h => (ref02_most_k0 hQ _) _ _ _ _ _ h))
def ref02_most_c : Ans
  | [.pv (.sc .u64 x_0), .pv (.sc .u64 n), .pv (.sc .b cube)], [] => some (some ((ref02_most_z x_0 n cube).isSome = true), ref02_most_enc ((ref02_most_z x_0 n cube).get!))
  | _, _ => none
theorem ref02_most_tok : TblOK Tryd.prog theG ref02_most_T := .cons ⟨by kernel_rfl, ref02_times_ok⟩ (.nil)
theorem ref02_most_ok : FnOK Tryd.prog theG 63 (unW ref02_most_c) := by
  refine FnOK.ofC (T := ref02_most_T) (nt := 68) (np := 0) (hs := ref02_most_hs) (fn := Tryd.f63) (body := ref02_most_b) ref02_most_tok (by kernel_rfl) (by kernel_rfl) (by kernel_rfl) (by kernel_rfl) (c := ref02_most_c) (lv := ref02_most_lv) ?_
  intro xs mem p out h hp
  unfold ref02_most_c at h
  split at h
  · cases h
    exact ref02_most_w (k := 1000) _ _ _ ((ref02_most_z_eq _ _ _).symm.trans (some_get hp)) rfl
  · cases h
end
end Go.Proofs.YtkjillpcmffgoaaDoor.M

namespace Go.Proofs.YtkjillpcmffgoaaDoor.M
open Go
noncomputable section
set_option maxRecDepth 100000
noncomputable def ref02_part_T : Tbl := [(63, [], ref02_most_c)]
noncomputable def ref02_part_C : CfgW := mkC Tryd.prog theG ref02_part_T 24 0
def ref02_part_lv : Nat → List Nat := fun i => bif Nat.beq i 0 then [0, 1, 5, 6] else []
noncomputable abbrev ref02_part_b : Code := Tryd.f54.body.getD .skip
noncomputable abbrev ref02_part_r : List ResultVar := Tryd.f54.results.toList
def ref02_part_hs : List Nat := []

def ref02_part_enc (r : UInt32) : CallOut := ⟨.pv (.sc .u32 r), [], true, []⟩
def ref02_part_s0 (n : UInt64) (cube : Bool) (x_ : UInt64) (bit : Int) : St := ⟨[(0, .pv (.sc .u64 n)), (1, .pv (.sc .b cube)), (5, .pv (.sc .u64 x_)), (6, .pv (.sc .i bit))], []⟩
theorem ref02_part_g0 (n : UInt64) (cube : Bool) (x_ : UInt64) (bit : Int) (Q : CallOut → Prop) : headRound ref02_part_C ref02_part_lv [true, true, false, true, false] ref02_part_b (ref02_part_s0 n cube x_ bit) (fnK ref02_part_C ref02_part_r ref02_part_hs Q) =
    (condP (decide ((0 : Int) ≤ bit)) (((Option.isSome (ref02_most_z (x_ ||| (shl_u64 (1 : UInt64) (UInt64.toNat (UInt64.ofInt bit)))) n cube)) = true) ∧ (condP (Option.get! (ref02_most_z (x_ ||| (shl_u64 (1 : UInt64) (UInt64.toNat (UInt64.ofInt bit)))) n cube)) (headP ref02_part_C ref02_part_lv [true, true, false, true, false] ref02_part_b (ref02_part_s0 n cube (x_ ||| (shl_u64 (1 : UInt64) (UInt64.toNat (UInt64.ofInt bit)))) (w64 (bit - (1 : Int)))) (fnK ref02_part_C ref02_part_r ref02_part_hs Q)) (headP ref02_part_C ref02_part_lv [true, true, false, true, false] ref02_part_b (ref02_part_s0 n cube x_ (w64 (bit - (1 : Int)))) (fnK ref02_part_C ref02_part_r ref02_part_hs Q)))) (Q (ref02_part_enc (UInt64.toUInt32 x_)))) := by kernel_rfl
theorem ref02_part_k0 {r : UInt32} {Q : CallOut → Prop} (hQ : Q (ref02_part_enc r)) : ∀ k : Nat, (∀ (n : UInt64) (cube : Bool) (x_ : UInt64) (bit : Int), ref02_part_h0 k n cube x_ bit = some r → headP ref02_part_C ref02_part_lv [true, true, false, true, false] ref02_part_b (ref02_part_s0 n cube x_ bit) (fnK ref02_part_C ref02_part_r ref02_part_hs Q))
  | 0 => fun _ _ _ _ h => no_ok h
  | k + 1 => fun n cube x_ bit h => headP_step (Eq.mpr (ref02_part_g0 n cube x_ bit Q) (have h := (ref02_part_h0_q k n cube x_ bit).symm.trans h; cond_ok h (fun h => ite_ok h fun hc0 h => cond_ok h (fun h => (ref02_part_k0 hQ k) _ _ _ _ h) (fun h => (ref02_part_k0 hQ k) _ _ _ _ h)) (fun h => ret_ok (Q := Q) (e := ref02_part_enc) h hQ)))
theorem ref02_part_e (n : UInt64) (cube : Bool) (Q : CallOut → Prop) : evalFnP ref02_part_C ref02_part_lv ref02_part_r ref02_part_hs ref02_part_b [.pv (.sc .u64 n), .pv (.sc .b cube)] [] Q =
    (headP ref02_part_C ref02_part_lv [true, true, false, true, false] ref02_part_b (ref02_part_s0 n cube (0 : UInt64) (39 : Int)) (fnK ref02_part_C ref02_part_r ref02_part_hs Q)) := by kernel_rfl
theorem ref02_part_w {k : Nat} (n : UInt64) (cube : Bool) {r} {Q : CallOut → Prop} (h : ref02_part k n cube = some r) (hQ : Q (ref02_part_enc r)) : evalFnP ref02_part_C ref02_part_lv ref02_part_r ref02_part_hs ref02_part_b [.pv (.sc .u64 n), .pv (.sc .b cube)] [] Q :=
  Eq.mpr (ref02_part_e n cube Q) (have h := (ref02_part_q k n cube).symm.trans h; (ref02_part_k0 hQ _) _ _ _ _ h)
def ref02_part_c : Ans
  | [.pv (.sc .u64 n), .pv (.sc .b cube)], [] => some (some ((ref02_part_z n cube).isSome = true), ref02_part_enc ((ref02_part_z n cube).get!))
  | _, _ => none
theorem ref02_part_tok : TblOK Tryd.prog theG ref02_part_T := .cons ⟨by kernel_rfl, ref02_most_ok⟩ (.nil)
theorem ref02_part_ok : FnOK Tryd.prog theG 54 (unW ref02_part_c) := by
  refine FnOK.ofC (T := ref02_part_T) (nt := 24) (np := 0) (hs := ref02_part_hs) (fn := Tryd.f54) (body := ref02_part_b) ref02_part_tok (by kernel_rfl) (by kernel_rfl) (by kernel_rfl) (by kernel_rfl) (c := ref02_part_c) (lv := ref02_part_lv) ?_
  intro xs mem p out h hp
  unfold ref02_part_c at h
  split at h
  · cases h
    exact ref02_part_w (k := 1000) _ _ ((ref02_part_z_eq _ _).symm.trans (some_get hp)) rfl
  · cases h
end
end Go.Proofs.YtkjillpcmffgoaaDoor.M
