/- Part of the proofs: what functions of the program do: plain functions, and the walks that show it. No condition. -/
import Derived.KernelRfl
import Derived.Test.YtbdajagcinfeeaaDoorLe
import Derived.Test.YtbdajagcinfeeaaDoorSbigS
import Derived.Test.YtbdajagcinfeeaaDoorSwords
set_option linter.unusedVariables false
set_option linter.unusedSimpArgs false
set_option autoImplicit false
namespace Go.Proofs.YtbdajagcinfeeaaDoor.M
open Go
theorem gW_high (a : Vector UInt64 4) (j t : Nat) (h : 64 ≤ t) : (gW a j).testBit t = false := w_bit_high _ _ h
theorem left_word (a : Vector UInt64 4) (N j : Nat) (hN : N < 256) (hj : j < 4) (h : N / 64 ≤ j) (t : Nat) (ht : t < 64) :
    ((decide (N % 64 ≤ t) && (gW a (j - N / 64)).testBit (t - N % 64)) || (decide (0 < j - N / 64 ∧ N % 64 ≠ 0) && (gW a (j - N / 64 - 1)).testBit (t + (64 - N % 64)))) = (uV a * 2 ^ N).testBit (64 * j + t) := by
  rw [Nat.testBit_mul_two_pow]
  by_cases c : N % 64 ≤ t
  · rw [decide_eq_true c, Bool.true_and, gW_high a _ (t + (64 - N % 64)) (by omega), Bool.and_false, Bool.or_false, decide_eq_true (by omega), Bool.true_and, gW_bit a _ _ (by omega) (by omega)]
    congr 1; omega
  · rw [decide_eq_false c, Bool.false_and, Bool.false_or]
    by_cases d : 0 < j - N / 64
    · rw [decide_eq_true (by omega), decide_eq_true (by omega), Bool.true_and, Bool.true_and, gW_bit a _ _ (by omega) (by omega)]
      congr 1; omega
    · rw [decide_eq_false (by omega), decide_eq_false (by omega), Bool.false_and, Bool.false_and]
theorem right_word (a : Vector UInt64 4) (N j : Nat) (hN : N < 256) (h : j + N / 64 < 4) (t : Nat) (ht : t < 64) :
    ((gW a (j + N / 64)).testBit (t + N % 64) || (decide (j + N / 64 + 1 < 4 ∧ N % 64 ≠ 0) && (decide (64 - N % 64 ≤ t) && (gW a (j + N / 64 + 1)).testBit (t - (64 - N % 64))))) = (uV a / 2 ^ N).testBit (64 * j + t) := by
  rw [Nat.testBit_div_two_pow]
  by_cases c : t + N % 64 < 64
  · rw [gW_bit a _ _ (by omega) (by omega)]
    rw [decide_eq_false (p := 64 - N % 64 ≤ t) (by omega), Bool.false_and, Bool.and_false, Bool.or_false]
    congr 1; omega
  · rw [gW_high a _ _ (by omega), Bool.false_or]
    by_cases d : j + N / 64 + 1 < 4
    · rw [decide_eq_true (by omega), decide_eq_true (by omega), Bool.true_and, Bool.true_and, gW_bit a _ _ (by omega) (by omega)]
      congr 1; omega
    · rw [decide_eq_false (by omega), Bool.false_and, uV_high _ _ (by omega)]
theorem amount (N : Nat) (h : N < 256) : (UInt64.toNat ((UInt64.ofInt ((N : Nat) : Int)) % (64 : UInt64))) = N % 64 := by
  rw [UInt64.toNat_mod, u64_ofInt (by omega)]
  rfl
theorem amount2 (N : Nat) (h : N < 256) : (UInt64.toNat ((64 : UInt64) - ((UInt64.ofInt ((N : Nat) : Int)) % (64 : UInt64)))) = 64 - N % 64 := by
  rw [UInt64.toNat_sub, amount N h, show (64 : UInt64).toNat = 64 from rfl]
  omega
theorem vecI {x : Vector UInt64 4} {n : Nat} (h : ∀ j t, j < 4 → t < 64 → (gW x j).testBit t = n.testBit (64 * j + t)) : x = uW n := by
  refine u_bit_ext fun i hi => ?_
  rw [uV_bit _ _ hi, h _ _ (by omega) (by omega), uW_bit, decide_eq_true hi, Bool.true_and]
  congr 1; omega
end Go.Proofs.YtbdajagcinfeeaaDoor.M

namespace Go.Proofs.YtbdajagcinfeeaaDoor.M
open Go
/-! hashes and numbers -/
theorem numU_bit : ∀ (l : List UInt8) (i : Nat), (numU l).testBit i = (List.getD l (i / 8) 0).toNat.testBit (i % 8)
  | [], i => by simp [numU]
  | x :: r, i => by
    have hx := x.toNat_lt
    have e := Nat.testBit_two_pow_mul_add (numU r) (i := 8) (b := x.toNat) hx i
    have e2 : numU (x :: r) = 2 ^ 8 * numU r + x.toNat := by
      rw [numU]; omega
    rw [e2, e]
    by_cases c : i < 8
    · rw [if_pos c, show i / 8 = 0 by omega, show i % 8 = i by omega]
      rfl
    · rw [if_neg c, numU_bit r (i - 8), show i / 8 = (i - 8) / 8 + 1 by omega, show i % 8 = (i - 8) % 8 by omega]
      rfl
theorem b_bit_high (x : UInt8) (t : Nat) (h : 8 ≤ t) : x.toNat.testBit t = false := by
  refine Nat.testBit_lt_two_pow (Nat.lt_of_lt_of_le x.toNat_lt ?_)
  exact Nat.pow_le_pow_right (by decide) h
theorem b_bit_ext {x y : UInt8} (h : ∀ t, t < 8 → x.toNat.testBit t = y.toNat.testBit t) : x = y := by
  rw [← UInt8.toNat_inj]
  apply Nat.eq_of_testBit_eq
  intro t
  by_cases ht : t < 8
  · exact h t ht
  · rw [b_bit_high _ _ (by omega), b_bit_high _ _ (by omega)]
noncomputable def hashV (n : Nat) : Vector UInt8 32 := lock (Vector.ofFn fun i : Fin 32 => UInt8.ofNat (n / 2 ^ (8 * i.val)))
theorem hashV_get (n i : Nat) (h : i < 32) : List.getD (Vector.toList (hashV n)) i 0 = UInt8.ofNat (n / 2 ^ (8 * i)) := by
  unfold hashV
  rw [lock_eq]
  exact vget_ofFn (fun i : Fin 32 => UInt8.ofNat (n / 2 ^ (8 * i.val))) i 0 h
theorem hashV_bit (n i t : Nat) (h : i < 32) (ht : t < 8) : (List.getD (Vector.toList (hashV n)) i 0).toNat.testBit t = n.testBit (8 * i + t) := by
  rw [hashV_get _ _ h, UInt8.toNat_ofNat', Nat.testBit_mod_two_pow, decide_eq_true ht, Bool.true_and, Nat.testBit_div_two_pow, Nat.add_comm]
theorem hashV_ext {n : Nat} {v : Vector UInt8 32} (h : ∀ i t, i < 32 → t < 8 → (List.getD (Vector.toList v) i 0).toNat.testBit t = n.testBit (8 * i + t)) : v = hashV n := by
  refine vext 0 fun i hi => b_bit_ext fun t ht => ?_
  rw [h i t hi ht, hashV_bit _ _ _ hi ht]
theorem num_lt (h : Vector UInt8 32) : numU (Vector.toList h) < 115792089237316195423570985008687907853269984665640564039457584007913129639936 := by
  have := numU_lt (Vector.toList h)
  rw [Vector.length_toList] at this
  exact this
theorem uV_num (h : Vector UInt8 32) : uV (uW (numU (Vector.toList h))) = numU (Vector.toList h) := by
  rw [uV_uW, Nat.mod_eq_of_lt (num_lt h)]
noncomputable def hashU (h : Vector UInt8 32) : Vector UInt64 4 := lock (uW (numU (Vector.toList h)))
theorem hashU_eq (h : Vector UInt8 32) : hashU h = uW (numU (Vector.toList h)) := lock_eq _
theorem hashU_val (h : Vector UInt8 32) : uV (hashU h) = numU (Vector.toList h) := by rw [hashU_eq, uV_num]
end Go.Proofs.YtbdajagcinfeeaaDoor.M
