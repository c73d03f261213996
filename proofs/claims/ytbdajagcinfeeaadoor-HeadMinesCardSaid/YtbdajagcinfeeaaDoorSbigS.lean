/- Part of the proofs: what functions of the program do: plain functions, and the walks that show it. No condition. -/
import Derived.KernelRfl
import Derived.Test.YtbdajagcinfeeaaDoorLe
import Derived.Test.YtbdajagcinfeeaaDoorSwords
set_option linter.unusedVariables false
set_option linter.unusedSimpArgs false
set_option autoImplicit false
namespace Go.Proofs.YtbdajagcinfeeaaDoor.M
open Go
/-! numbers of 256 bits, as natural numbers -/
def gW (a : Vector UInt64 4) (i : Nat) : Nat := (List.getD (Vector.toList a) i 0).toNat
def uV (a : Vector UInt64 4) : Nat := gW a 0 + 18446744073709551616 * (gW a 1 + 18446744073709551616 * (gW a 2 + 18446744073709551616 * gW a 3))
def uW (n : Nat) : Vector UInt64 4 := #v[UInt64.ofNat n, UInt64.ofNat (n / 18446744073709551616), UInt64.ofNat (n / 18446744073709551616 / 18446744073709551616), UInt64.ofNat (n / 18446744073709551616 / 18446744073709551616 / 18446744073709551616)]
theorem gW_lt (a : Vector UInt64 4) (i : Nat) : gW a i < 18446744073709551616 := (List.getD (Vector.toList a) i 0).toNat_lt
theorem uV_lt (a : Vector UInt64 4) : uV a < 115792089237316195423570985008687907853269984665640564039457584007913129639936 := by
  have h0 := gW_lt a 0
  have h1 := gW_lt a 1
  have h2 := gW_lt a 2
  have h3 := gW_lt a 3
  unfold uV
  omega
theorem uW_get (n q : Nat) (h : q < 4) : gW (uW n) q = n / 18446744073709551616 ^ q % 18446744073709551616 := by
  have : q = 0 ∨ q = 1 ∨ q = 2 ∨ q = 3 := by omega
  rcases this with h | h | h | h <;> subst h <;> simp [gW, uW, UInt64.toNat_ofNat'] <;> omega
theorem uV_uW (n : Nat) : uV (uW n) = n % 115792089237316195423570985008687907853269984665640564039457584007913129639936 := by
  unfold uV
  rw [uW_get _ _ (by omega), uW_get _ _ (by omega), uW_get _ _ (by omega), uW_get _ _ (by omega)]
  simp only [Nat.pow_zero, Nat.div_one, Nat.pow_one, show 18446744073709551616 ^ 2 = 18446744073709551616 * 18446744073709551616 from rfl, show 18446744073709551616 ^ 3 = 18446744073709551616 * 18446744073709551616 * 18446744073709551616 from rfl, ← Nat.div_div_eq_div_mul]
  omega
theorem w_ext {a b : Vector UInt64 4} (h : ∀ i, i < 4 → gW a i = gW b i) : a = b := by
  refine vext 0 fun j hj => ?_
  exact UInt64.toNat_inj.1 (h j hj)
theorem uW_uV (a : Vector UInt64 4) : uW (uV a) = a := by
  have h0 := gW_lt a 0
  have h1 := gW_lt a 1
  have h2 := gW_lt a 2
  have h3 := gW_lt a 3
  refine w_ext fun i hi => ?_
  rw [uW_get _ _ hi]
  have : i = 0 ∨ i = 1 ∨ i = 2 ∨ i = 3 := by omega
  unfold uV
  rcases this with h | h | h | h <;> subst h <;> simp only [Nat.pow_zero, Nat.div_one, Nat.pow_one, show 18446744073709551616 ^ 2 = 18446744073709551616 * 18446744073709551616 from rfl, show 18446744073709551616 ^ 3 = 18446744073709551616 * 18446744073709551616 * 18446744073709551616 from rfl, ← Nat.div_div_eq_div_mul] <;> omega
theorem uV_inj {a b : Vector UInt64 4} (h : uV a = uV b) : a = b := by rw [← uW_uV a, h, uW_uV]

/-! bits -/
def bitsV (n : Nat) : Vector Bool 256 := Vector.ofFn fun i : Fin 256 => n.testBit i.val
theorem bitsV_get (n i : Nat) (h : i < 256) : List.getD (Vector.toList (bitsV n)) i false = n.testBit i := vget_ofFn (fun i : Fin 256 => n.testBit i.val) i false h
/-- a bit of a number, by its words -/
theorem uV_bit (a : Vector UInt64 4) (i : Nat) (h : i < 256) : (uV a).testBit i = (gW a (i / 64)).testBit (i % 64) := by
  have h0 := gW_lt a 0
  have h1 := gW_lt a 1
  have h2 := gW_lt a 2
  have h3 := gW_lt a 3
  have e : ∀ x r j : Nat, x < 18446744073709551616 → (x + 18446744073709551616 * r).testBit j = if j < 64 then x.testBit j else r.testBit (j - 64) := by
    intro x r j hx
    have := Nat.testBit_two_pow_mul_add r (i := 64) hx j
    rw [Nat.add_comm]
    exact this
  unfold uV
  rw [e _ _ _ h0]
  by_cases c0 : i < 64
  · rw [if_pos c0, show i / 64 = 0 by omega, show i % 64 = i by omega]
  · rw [if_neg c0, e _ _ _ h1]
    by_cases c1 : i - 64 < 64
    · rw [if_pos c1, show i / 64 = 1 by omega, show i % 64 = i - 64 by omega]
    · rw [if_neg c1, e _ _ _ h2]
      by_cases c2 : i - 64 - 64 < 64
      · rw [if_pos c2, show i / 64 = 2 by omega, show i % 64 = i - 64 - 64 by omega]
      · rw [if_neg c2, show i / 64 = 3 by omega, show i % 64 = i - 64 - 64 - 64 by omega]
theorem two256 : 2 ^ 256 = 115792089237316195423570985008687907853269984665640564039457584007913129639936 := by decide
def subS (a b : Vector UInt64 4) : Vector UInt64 4 × Bool := (uW (uV a + 115792089237316195423570985008687907853269984665640564039457584007913129639936 - uV b), decide (uV a < uV b))
theorem bit_split (x i : Nat) : x / 2 ^ i = 2 * (x / 2 ^ (i + 1)) + (x.testBit i).toNat := by
  rw [Nat.testBit_eq_decide_div_mod_eq, Nat.pow_succ, ← Nat.div_div_eq_div_mul]
  generalize x / 2 ^ i = m
  by_cases h : m % 2 = 1
  · rw [decide_eq_true h]; simp; omega
  · rw [decide_eq_false h]; simp; omega
end Go.Proofs.YtbdajagcinfeeaaDoor.M

namespace Go.Proofs.YtbdajagcinfeeaaDoor.M
open Go
/-! loops with invariants -/
theorem Ev.inv {R σ : Type} {H : Nat → Int → σ → Option R} {n : Nat} {r : R} (Inv : Nat → σ → Prop)
    (step : ∀ (i : Nat) (s : σ), i < n → Inv i s → (∀ s', Inv (i + 1) s' → Ev (fun k => H k ((i : Int) + 1) s') r) → Ev (fun k => H k (i : Int) s) r)
    (done : ∀ s, Inv n s → Ev (fun k => H k (n : Int) s) r) : ∀ (m i : Nat) (s : σ), i + m = n → Inv i s → Ev (fun k => H k (i : Int) s) r
  | 0, i, s, hi, hv => by
    obtain rfl : i = n := by omega
    exact done s hv
  | m + 1, i, s, hi, hv => by
    refine step i s (by omega) hv fun s' hv' => ?_
    have := Ev.inv Inv step done m (i + 1) s' (by omega) hv'
    simpa using this
theorem Ev.dwn {R σ : Type} {H : Nat → Int → σ → Option R} {n : Nat} {r : R} (Inv : Nat → σ → Prop)
    (step : ∀ (i : Nat) (s : σ), i < n → Inv (i + 1) s → (∀ s', Inv i s' → Ev (fun k => H k ((i : Int) - 1) s') r) → Ev (fun k => H k (i : Int) s) r)
    (done : ∀ s, Inv 0 s → Ev (fun k => H k (-1) s) r) : ∀ (i : Nat) (s : σ), i ≤ n → Inv i s → Ev (fun k => H k ((i : Int) - 1) s) r
  | 0, s, _, hv => done s hv
  | i + 1, s, hi, hv => by
    rw [show ((i + 1 : Nat) : Int) - 1 = (i : Int) by omega]
    exact step i s (by omega) hv fun s' hv' => Ev.dwn Inv step done i s' (by omega) hv'
theorem Ev.done0 {R : Type} {f : Nat → Option R} {r : R} (h : ∀ k, f k = some r) : Ev f r := ⟨0, h 0⟩
/-! bits of words and of numbers -/
theorem uW_bit (n i : Nat) : (uV (uW n)).testBit i = (decide (i < 256) && n.testBit i) := by
  rw [uV_uW, ← two256, Nat.testBit_mod_two_pow]
theorem uV_high (a : Vector UInt64 4) (i : Nat) (h : 256 ≤ i) : (uV a).testBit i = false := by
  rw [← uW_uV a, uW_bit, decide_eq_false (by omega), Bool.false_and]
theorem gW_bit (a : Vector UInt64 4) (j t : Nat) (hj : j < 4) (ht : t < 64) : (gW a j).testBit t = (uV a).testBit (64 * j + t) := by
  rw [uV_bit a _ (by omega), show (64 * j + t) / 64 = j by omega, show (64 * j + t) % 64 = t by omega]
theorem w_bit_high (x : UInt64) (t : Nat) (h : 64 ≤ t) : x.toNat.testBit t = false := by
  refine Nat.testBit_lt_two_pow (Nat.lt_of_lt_of_le x.toNat_lt ?_)
  exact Nat.pow_le_pow_right (by decide) h
theorem u_bit_ext {a b : Vector UInt64 4} (h : ∀ i, i < 256 → (uV a).testBit i = (uV b).testBit i) : a = b := by
  apply uV_inj
  apply Nat.eq_of_testBit_eq
  intro i
  by_cases hi : i < 256
  · exact h i hi
  · rw [uV_high _ _ (by omega), uV_high _ _ (by omega)]
theorem shl_bit (x : UInt64) (c t : Nat) (hc : c ≤ 64) : (shl_u64 x c).toNat.testBit t = (decide (t < 64) && (decide (c ≤ t) && x.toNat.testBit (t - c))) := by
  unfold shl_u64
  rw [UInt64.toNat_ofNat', Nat.testBit_mod_two_pow, Nat.min_eq_left hc, Nat.testBit_mul_two_pow]
theorem shr_bit (x : UInt64) (c t : Nat) (hc : c ≤ 64) : (shr_u64 x c).toNat.testBit t = x.toNat.testBit (t + c) := by
  unfold shr_u64
  rw [UInt64.toNat_ofNat', Nat.testBit_mod_two_pow, Nat.min_eq_left hc, Nat.testBit_div_two_pow]
  by_cases ht : t < 64
  · rw [decide_eq_true ht, Bool.true_and]
  · rw [decide_eq_false ht, Bool.false_and, w_bit_high _ _ (by omega)]
theorem or_bit (x y : UInt64) (t : Nat) : (x ||| y).toNat.testBit t = (x.toNat.testBit t || y.toNat.testBit t) := by
  rw [UInt64.toNat_or, Nat.testBit_or]
theorem gW_set (a : Vector UInt64 4) (i j : Nat) (x : UInt64) (h : i < 4) : gW (Vector.setIfInBounds a i x) j = if i = j then x.toNat else gW a j := by
  unfold gW
  rw [vget_set _ _ _ _ _ h]
  split <;> rfl
theorem gW_rep (j : Nat) : gW (Vector.replicate 4 0) j = 0 := by
  unfold gW
  rw [vget_rep]
  rfl
theorem gW_def (a : Vector UInt64 4) (j : Nat) : (List.getD (Vector.toList a) j 0).toNat = gW a j := rfl
theorem uV_rep : uV (Vector.replicate 4 0) = 0 := by
  unfold uV
  rw [gW_rep, gW_rep, gW_rep, gW_rep]
theorem w64_nat {a : Nat} (h : a < 9223372036854775808) : w64 ((a : Nat) : Int) = ((a : Nat) : Int) := w64_id (by omega) (by omega)
theorem set_set {α : Type} {n : Nat} (v : Vector α n) (i : Nat) (x y : α) : Vector.setIfInBounds (Vector.setIfInBounds v i x) i y = Vector.setIfInBounds v i y := by
  apply Vector.ext
  intro j hj
  simp [Vector.getElem_setIfInBounds]
theorem vget_set_eq {n : Nat} (v : Vector UInt64 n) (i : Nat) (x : UInt64) (h : i < n) : List.getD (Vector.toList (Vector.setIfInBounds v i x)) i 0 = x := by
  rw [vget_set _ _ _ _ _ h, if_pos rfl]
/-! answers -/
noncomputable def subV (a b : Vector UInt64 4) : Vector UInt64 4 := lock (uW (uV a + 115792089237316195423570985008687907853269984665640564039457584007913129639936 - uV b))
theorem subV_eq (a b : Vector UInt64 4) : subV a b = (uW (uV a + 115792089237316195423570985008687907853269984665640564039457584007913129639936 - uV b)) := lock_eq _
noncomputable def subB (a b : Vector UInt64 4) : Bool := lock (decide (uV a < uV b))
theorem subB_eq (a b : Vector UInt64 4) : subB a b = (decide (uV a < uV b)) := lock_eq _
noncomputable def lenN (n : Nat) : Nat := lock (if n = 0 then 0 else Nat.log2 n + 1)
theorem lenN_eq (n : Nat) : lenN n = (if n = 0 then 0 else Nat.log2 n + 1) := lock_eq _
theorem uV_zero (b : Vector UInt64 4) : (Vector.toList b = Vector.toList (Vector.replicate 4 (0 : UInt64))) ↔ uV b = 0 := by
  constructor
  · intro h
    rw [Vector.toList_inj.1 h, uV_rep]
  · intro h
    have : b = Vector.replicate 4 0 := uV_inj (by rw [h, uV_rep])
    rw [this]
theorem lenN_zero : lenN 0 = 0 := by rw [lenN_eq]; rfl
theorem lenN_le {n i : Nat} : lenN n ≤ i ↔ n < 2 ^ i := by
  rw [lenN_eq]
  by_cases h : n = 0
  · rw [if_pos h, h]
    simp [Nat.two_pow_pos]
  · rw [if_neg h, Nat.succ_le_iff, Nat.log2_lt h]
theorem lenN_uniq {n i : Nat} (h : ∀ j, n < 2 ^ j ↔ i ≤ j) : lenN n = i := by
  have a := lenN_le.2 ((h i).2 (Nat.le_refl i))
  have b := (h (lenN n)).1 (lenN_le.1 (Nat.le_refl _))
  omega
theorem lenN_shift {n : Nat} (k : Nat) (h : n / 2 ^ k ≠ 0) : lenN n = lenN (n / 2 ^ k) + k := by
  have hk : 2 ^ k ≤ n := by
    by_cases c : 2 ^ k ≤ n
    · exact c
    · exact absurd (Nat.div_eq_of_lt (by omega)) h
  refine lenN_uniq fun j => ?_
  by_cases c : k ≤ j
  · have e : lenN (n / 2 ^ k) + k ≤ j ↔ lenN (n / 2 ^ k) ≤ j - k := by omega
    rw [e, lenN_le, Nat.div_lt_iff_lt_mul (Nat.two_pow_pos k), ← Nat.pow_add, show j - k + k = j by omega]
  · constructor
    · intro g
      have : 2 ^ j ≤ 2 ^ k := Nat.pow_le_pow_right (by decide) (by omega)
      omega
    · intro g; omega
theorem shr_val (x : UInt64) (c : Nat) (hc : c ≤ 64) : (shr_u64 x c).toNat = x.toNat / 2 ^ c := by
  unfold shr_u64
  rw [UInt64.toNat_ofNat', Nat.min_eq_left hc]
  exact Nat.mod_eq_of_lt (Nat.lt_of_le_of_lt (Nat.div_le_self _ _) x.toNat_lt)
end Go.Proofs.YtbdajagcinfeeaaDoor.M

namespace Go.Proofs.YtbdajagcinfeeaaDoor.M
open Go
/-! bytes as a number -/
def numU : List UInt8 → Nat
  | [] => 0
  | x :: r => x.toNat + 256 * numU r
theorem numU_lt : ∀ b : List UInt8, numU b < 256 ^ b.length
  | [] => by decide
  | x :: r => by
    have hx := x.toNat_lt
    have ih := numU_lt r
    rw [numU, List.length_cons, Nat.pow_succ]
    omega
end Go.Proofs.YtbdajagcinfeeaaDoor.M
