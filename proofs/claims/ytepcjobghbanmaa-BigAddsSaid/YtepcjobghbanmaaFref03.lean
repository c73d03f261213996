/- Part of the proofs: what functions of the program do: plain functions, and the walks that show it. No condition. -/
import Derived.KernelRfl
import Derived.Test.YtepcjobghbanmaaProg
import Derived.Test.YtepcjobghbanmaaLd
import Derived.Test.YtepcjobghbanmaaSwords
import Derived.Test.YtepcjobghbanmaaSbigS
set_option linter.unusedVariables false
set_option linter.unusedSimpArgs false
set_option autoImplicit false
namespace Go.Proofs.Ytepcjobghbanmaa.M
open Go
noncomputable section
mutual
/-- the loop 0 of moneyer/moneyerref03.Bits -/
def ref03_Bits_h0 : Nat → Int → (Vector UInt64 4) → (Vector Bool 256) → (Vector Bool 256) → Option (Vector Bool 256)
  | 0, _, _, _, _ => none
  | k + 1, i, a, t2, l => bif decide (i < (256 : Int)) then (if ((0 : Int) ≤ (w64 (Int.tdiv i (64 : Int)))) ∧ ((w64 (Int.tdiv i (64 : Int))) < (4 : Int)) then
        ref03_Bits_h2 k i (List.getD (Vector.toList a) (Int.toNat (w64 (Int.tdiv i (64 : Int)))) (0 : UInt64)) (0 : Int) a t2 l
      else none)
      else (some l)
/-- the loop 2 of moneyer/moneyerref03.Bits -/
def ref03_Bits_h2 : Nat → Int → UInt64 → Int → (Vector UInt64 4) → (Vector Bool 256) → (Vector Bool 256) → Option (Vector Bool 256)
  | 0, _, _, _, _, _, _ => none
  | k + 1, i, n, k_, a, t2, l => bif decide (k_ < (Int.tmod i (64 : Int))) then (ref03_Bits_h2 k i (n / (2 : UInt64)) (w64 (k_ + (1 : Int))) a t2 l)
      else (if ((0 : Int) ≤ i) ∧ (i < (256 : Int)) then
        ref03_Bits_h0 k (w64 (i + (1 : Int))) a t2 (Vector.setIfInBounds l (Int.toNat i) (decide ((n % (2 : UInt64)) = (1 : UInt64))))
      else none)
end
theorem ref03_Bits_h0_q (k : Nat) (i : Int) (a : Vector UInt64 4) (t2 : Vector Bool 256) (l : Vector Bool 256) : ref03_Bits_h0 (k + 1) i a t2 l =
  (bif decide (i < (256 : Int)) then (if ((0 : Int) ≤ (w64 (Int.tdiv i (64 : Int)))) ∧ ((w64 (Int.tdiv i (64 : Int))) < (4 : Int)) then
        ref03_Bits_h2 k i (List.getD (Vector.toList a) (Int.toNat (w64 (Int.tdiv i (64 : Int)))) (0 : UInt64)) (0 : Int) a t2 l
      else none)
      else (some l)) := by kernel_rfl
theorem ref03_Bits_h2_q (k : Nat) (i : Int) (n : UInt64) (k_ : Int) (a : Vector UInt64 4) (t2 : Vector Bool 256) (l : Vector Bool 256) : ref03_Bits_h2 (k + 1) i n k_ a t2 l =
  (bif decide (k_ < (Int.tmod i (64 : Int))) then (ref03_Bits_h2 k i (n / (2 : UInt64)) (w64 (k_ + (1 : Int))) a t2 l)
      else (if ((0 : Int) ≤ i) ∧ (i < (256 : Int)) then
        ref03_Bits_h0 k (w64 (i + (1 : Int))) a t2 (Vector.setIfInBounds l (Int.toNat i) (decide ((n % (2 : UInt64)) = (1 : UInt64))))
      else none)) := by kernel_rfl
/-- moneyer/moneyerref03.Bits -/
def ref03_Bits (k : Nat) (a : Vector UInt64 4) : Option (Vector Bool 256) :=
  ref03_Bits_h0 k (0 : Int) a (Vector.replicate (256 : Nat) false) (Vector.replicate (256 : Nat) false)
theorem ref03_Bits_q (k : Nat) (a : Vector UInt64 4) : ref03_Bits k a = (ref03_Bits_h0 k (0 : Int) a (Vector.replicate (256 : Nat) false) (Vector.replicate (256 : Nat) false)) := by kernel_rfl
theorem ref03_Bits_spec (a : Vector UInt64 4) : ∃ k, ref03_Bits k a = some (bitsV (uV a)) := by
  show Ev (fun k => ref03_Bits k a) _
  refine Ev.same (fun k => ref03_Bits_q k a) ?_
  have inner : ∀ (i : Nat), i < 256 → ∀ (l : Vector Bool 256) (r : Vector Bool 256), Ev (fun f => ref03_Bits_h0 f ((i : Int) + 1) a (Vector.replicate 256 false) (Vector.setIfInBounds l i ((uV a).testBit i))) r →
      Ev (fun f => ref03_Bits_h2 f i (List.getD (Vector.toList a) (i / 64) 0) 0 a (Vector.replicate 256 false) l) r := by
    intro i hi l r e
    have gen : ∀ j k, k + j = i % 64 → ∀ n : UInt64, n.toNat = gW a (i / 64) / 2 ^ k → Ev (fun f => ref03_Bits_h2 f i n ((k : Nat) : Int) a (Vector.replicate 256 false) l) r := by
      have em : Int.tmod (i : Int) 64 = ((i % 64 : Nat) : Int) := rfl
      intro j
      induction j with
      | zero =>
        intro k hk n hn
        refine Ev.step (fun f => ?_) e
        have hb : decide (n % 2 = 1) = (uV a).testBit i := by
          rw [uV_bit a i hi, Nat.testBit_eq_decide_div_mod_eq]
          rw [decide_eq_decide, ← UInt64.toNat_inj, UInt64.toNat_mod, hn]
          rw [show k = i % 64 by omega]
          rfl
        rw [ref03_Bits_h2_q, em, bif_neg (by omega), if_pos (by omega), hb, Int.toNat_natCast, w64_id (by omega) (by omega)]
      | succ j ih =>
        intro k hk n hn
        refine Ev.step (fun f => ?_) (ih (k + 1) (by omega) (n / 2) ?_)
        · rw [ref03_Bits_h2_q, em, bif_pos (by omega), w64_id (by omega) (by omega)]
          rfl
        · rw [UInt64.toNat_div, hn, Nat.pow_succ, ← Nat.div_div_eq_div_mul]
          rfl
    exact gen (i % 64) 0 (by omega) _ (by rw [Nat.pow_zero, Nat.div_one]; rfl)
  refine Ev.up (H := fun k i l => ref03_Bits_h0 k i a (Vector.replicate 256 false) l) (lo := 0) (n := 256) (step := fun i l => Vector.setIfInBounds l i ((uV a).testBit i)) ?_ 256 0 _ (Nat.le_refl 0) rfl ?_
  · intro i l _ hi e
    have ed : Int.tdiv (i : Int) 64 = ((i / 64 : Nat) : Int) := rfl
    refine Ev.step (fun f => ?_) (inner i hi l _ e)
    rw [ref03_Bits_h0_q, bif_pos (by omega), ed, w64_id (by omega) (by omega), if_pos (by omega), Int.toNat_natCast]
  · refine Ev.done fun f => ?_
    rw [ref03_Bits_h0_q, bif_neg (by omega), iterUp_fill (fun i => (uV a).testBit i)]
    rfl

end
end Go.Proofs.Ytepcjobghbanmaa.M

namespace Go.Proofs.Ytepcjobghbanmaa.M
open Go
noncomputable section
/-- the loop 0 of moneyer/moneyerref03.sum -/
def ref03_sum_h0 : Nat → Bool → Int → (Vector Bool 256) → (Vector Bool 256) → (Vector Bool 256) → (Vector Bool 256) → Option (Vector Bool 256 × Bool)
  | 0, _, _, _, _, _, _ => none
  | k + 1, carry, i, x_, y, t6, out => bif decide (i < (256 : Int)) then (if ((0 : Int) ≤ i) ∧ (i < (256 : Int)) then
        bif List.getD (Vector.toList x_) (Int.toNat i) false then (bif List.getD (Vector.toList y) (Int.toNat i) false then (bif carry then (ref03_sum_h0 k (decide ((2 : Int) ≤ (3 : Int))) (w64 (i + (1 : Int))) x_ y t6 (Vector.setIfInBounds out (Int.toNat i) (decide ((1 : Int) = (1 : Int)))))
              else (ref03_sum_h0 k (decide ((2 : Int) ≤ (2 : Int))) (w64 (i + (1 : Int))) x_ y t6 (Vector.setIfInBounds out (Int.toNat i) (decide ((0 : Int) = (1 : Int))))))
            else (bif carry then (ref03_sum_h0 k (decide ((2 : Int) ≤ (2 : Int))) (w64 (i + (1 : Int))) x_ y t6 (Vector.setIfInBounds out (Int.toNat i) (decide ((0 : Int) = (1 : Int)))))
              else (ref03_sum_h0 k (decide ((2 : Int) ≤ (1 : Int))) (w64 (i + (1 : Int))) x_ y t6 (Vector.setIfInBounds out (Int.toNat i) (decide ((1 : Int) = (1 : Int)))))))
          else (bif List.getD (Vector.toList y) (Int.toNat i) false then (bif carry then (ref03_sum_h0 k (decide ((2 : Int) ≤ (2 : Int))) (w64 (i + (1 : Int))) x_ y t6 (Vector.setIfInBounds out (Int.toNat i) (decide ((0 : Int) = (1 : Int)))))
              else (ref03_sum_h0 k (decide ((2 : Int) ≤ (1 : Int))) (w64 (i + (1 : Int))) x_ y t6 (Vector.setIfInBounds out (Int.toNat i) (decide ((1 : Int) = (1 : Int))))))
            else (bif carry then (ref03_sum_h0 k (decide ((2 : Int) ≤ (1 : Int))) (w64 (i + (1 : Int))) x_ y t6 (Vector.setIfInBounds out (Int.toNat i) (decide ((1 : Int) = (1 : Int)))))
              else (ref03_sum_h0 k (decide ((2 : Int) ≤ (0 : Int))) (w64 (i + (1 : Int))) x_ y t6 (Vector.setIfInBounds out (Int.toNat i) (decide ((0 : Int) = (1 : Int)))))))
      else none)
      else (some (out, carry))
theorem ref03_sum_h0_q (k : Nat) (carry : Bool) (i : Int) (x_ : Vector Bool 256) (y : Vector Bool 256) (t6 : Vector Bool 256) (out : Vector Bool 256) : ref03_sum_h0 (k + 1) carry i x_ y t6 out =
  (bif decide (i < (256 : Int)) then (if ((0 : Int) ≤ i) ∧ (i < (256 : Int)) then
        bif List.getD (Vector.toList x_) (Int.toNat i) false then (bif List.getD (Vector.toList y) (Int.toNat i) false then (bif carry then (ref03_sum_h0 k (decide ((2 : Int) ≤ (3 : Int))) (w64 (i + (1 : Int))) x_ y t6 (Vector.setIfInBounds out (Int.toNat i) (decide ((1 : Int) = (1 : Int)))))
              else (ref03_sum_h0 k (decide ((2 : Int) ≤ (2 : Int))) (w64 (i + (1 : Int))) x_ y t6 (Vector.setIfInBounds out (Int.toNat i) (decide ((0 : Int) = (1 : Int))))))
            else (bif carry then (ref03_sum_h0 k (decide ((2 : Int) ≤ (2 : Int))) (w64 (i + (1 : Int))) x_ y t6 (Vector.setIfInBounds out (Int.toNat i) (decide ((0 : Int) = (1 : Int)))))
              else (ref03_sum_h0 k (decide ((2 : Int) ≤ (1 : Int))) (w64 (i + (1 : Int))) x_ y t6 (Vector.setIfInBounds out (Int.toNat i) (decide ((1 : Int) = (1 : Int)))))))
          else (bif List.getD (Vector.toList y) (Int.toNat i) false then (bif carry then (ref03_sum_h0 k (decide ((2 : Int) ≤ (2 : Int))) (w64 (i + (1 : Int))) x_ y t6 (Vector.setIfInBounds out (Int.toNat i) (decide ((0 : Int) = (1 : Int)))))
              else (ref03_sum_h0 k (decide ((2 : Int) ≤ (1 : Int))) (w64 (i + (1 : Int))) x_ y t6 (Vector.setIfInBounds out (Int.toNat i) (decide ((1 : Int) = (1 : Int))))))
            else (bif carry then (ref03_sum_h0 k (decide ((2 : Int) ≤ (1 : Int))) (w64 (i + (1 : Int))) x_ y t6 (Vector.setIfInBounds out (Int.toNat i) (decide ((1 : Int) = (1 : Int)))))
              else (ref03_sum_h0 k (decide ((2 : Int) ≤ (0 : Int))) (w64 (i + (1 : Int))) x_ y t6 (Vector.setIfInBounds out (Int.toNat i) (decide ((0 : Int) = (1 : Int)))))))
      else none)
      else (some (out, carry))) := by kernel_rfl
/-- moneyer/moneyerref03.sum -/
def ref03_sum (k : Nat) (x_0 : Vector Bool 256) (y : Vector Bool 256) (carry : Bool) : Option (Vector Bool 256 × Bool) :=
  ref03_sum_h0 k carry (0 : Int) x_0 y (Vector.replicate (256 : Nat) false) (Vector.replicate (256 : Nat) false)
theorem ref03_sum_q (k : Nat) (x_0 : Vector Bool 256) (y : Vector Bool 256) (carry : Bool) : ref03_sum k x_0 y carry = (ref03_sum_h0 k carry (0 : Int) x_0 y (Vector.replicate (256 : Nat) false) (Vector.replicate (256 : Nat) false)) := by kernel_rfl
theorem ref03_sum_spec (x y : Vector Bool 256) (c : Bool) : ∃ k, ref03_sum k x y c = some (sumS x y c) := by
  show Ev (fun k => ref03_sum k x y c) _
  refine Ev.same (fun k => ref03_sum_q k x y c) ?_
  have hC : c.toNat ≤ 1 := by cases c <;> decide
  let cr : Nat → Bool := fun i => decide (2 ^ i ≤ bV x % 2 ^ i + bV y % 2 ^ i + c.toNat)
  have gen : ∀ j i out, i + j = 256 → (∀ k, k < i → List.getD (Vector.toList out) k false = (bV x + bV y + c.toNat).testBit k) → Ev (fun f => ref03_sum_h0 f (cr i) i x y (Vector.replicate 256 false) out) (sumS x y c) := by
    intro j
    induction j with
    | zero =>
      intro i out hi h
      obtain rfl : i = 256 := by omega
      refine Ev.done fun f => ?_
      rw [ref03_sum_h0_q, bif_neg (by omega)]
      unfold sumS
      refine congrArg some (Prod.ext (vext false fun k hk => ?_) ?_)
      · rw [h k hk, bitsV_get _ _ hk]
      · show decide _ = decide _
        rw [Nat.mod_eq_of_lt (bV_lt x), Nat.mod_eq_of_lt (bV_lt y), two256]
    | succ j ih =>
      intro i out hi h
      obtain ⟨s1, s2⟩ := sum_step (X := bV x) (Y := bV y) (i := i) hC (cr i) rfl
      have hn := ih (i + 1) (Vector.setIfInBounds out i ((bV x + bV y + c.toNat).testBit i)) (by omega) (fun k hk => by
        rw [vget_set _ _ _ _ _ (by omega)]
        by_cases e : i = k
        · subst e; rw [if_pos rfl]
        · rw [if_neg e]; exact h k (by omega))
      refine Ev.step (fun f => ?_) hn
      have hcr : cr (i + 1) = decide (2 ≤ (cr i).toNat + ((bV x).testBit i).toNat + ((bV y).testBit i).toNat) := s2
      rw [hcr, s1, ref03_sum_h0_q, bif_pos (by omega), if_pos (by omega), Int.toNat_natCast, w64_id (by omega) (by omega), ← bV_bit, ← bV_bit]
      cases (bV x).testBit i <;> cases (bV y).testBit i <;> cases cr i <;> rfl
  have h0 : cr 0 = c := by
    show decide _ = c
    rw [Nat.pow_zero, Nat.mod_one, Nat.mod_one]
    cases c <;> rfl
  have := gen 256 0 (Vector.replicate 256 false) rfl (fun k hk => by omega)
  rw [h0] at this
  exact this

end
end Go.Proofs.Ytepcjobghbanmaa.M

namespace Go.Proofs.Ytepcjobghbanmaa.M
open Go
noncomputable section
/-- the loop 0 of moneyer/moneyerref03.Number -/
def ref03_Number_h0 : Nat → Int → (Vector Bool 256) → (Vector UInt64 4) → (Vector UInt64 4) → Option (Vector UInt64 4)
  | 0, _, _, _, _ => none
  | k + 1, i, l, t2, a => bif decide ((0 : Int) ≤ i) then (if ((0 : Int) ≤ (w64 (Int.tdiv i (64 : Int)))) ∧ ((w64 (Int.tdiv i (64 : Int))) < (4 : Int)) then
        if ((0 : Int) ≤ i) ∧ (i < (256 : Int)) then
          bif List.getD (Vector.toList l) (Int.toNat i) false then (ref03_Number_h0 k (w64 (i - (1 : Int))) l t2 (Vector.setIfInBounds (Vector.setIfInBounds a (Int.toNat (w64 (Int.tdiv i (64 : Int)))) ((2 : UInt64) * (List.getD (Vector.toList a) (Int.toNat (w64 (Int.tdiv i (64 : Int)))) (0 : UInt64)))) (Int.toNat (w64 (Int.tdiv i (64 : Int)))) ((List.getD (Vector.toList (Vector.setIfInBounds a (Int.toNat (w64 (Int.tdiv i (64 : Int)))) ((2 : UInt64) * (List.getD (Vector.toList a) (Int.toNat (w64 (Int.tdiv i (64 : Int)))) (0 : UInt64))))) (Int.toNat (w64 (Int.tdiv i (64 : Int)))) (0 : UInt64)) + (1 : UInt64))))
            else (ref03_Number_h0 k (w64 (i - (1 : Int))) l t2 (Vector.setIfInBounds a (Int.toNat (w64 (Int.tdiv i (64 : Int)))) ((2 : UInt64) * (List.getD (Vector.toList a) (Int.toNat (w64 (Int.tdiv i (64 : Int)))) (0 : UInt64)))))
        else none
      else none)
      else (some a)
theorem ref03_Number_h0_q (k : Nat) (i : Int) (l : Vector Bool 256) (t2 : Vector UInt64 4) (a : Vector UInt64 4) : ref03_Number_h0 (k + 1) i l t2 a =
  (bif decide ((0 : Int) ≤ i) then (if ((0 : Int) ≤ (w64 (Int.tdiv i (64 : Int)))) ∧ ((w64 (Int.tdiv i (64 : Int))) < (4 : Int)) then
        if ((0 : Int) ≤ i) ∧ (i < (256 : Int)) then
          bif List.getD (Vector.toList l) (Int.toNat i) false then (ref03_Number_h0 k (w64 (i - (1 : Int))) l t2 (Vector.setIfInBounds (Vector.setIfInBounds a (Int.toNat (w64 (Int.tdiv i (64 : Int)))) ((2 : UInt64) * (List.getD (Vector.toList a) (Int.toNat (w64 (Int.tdiv i (64 : Int)))) (0 : UInt64)))) (Int.toNat (w64 (Int.tdiv i (64 : Int)))) ((List.getD (Vector.toList (Vector.setIfInBounds a (Int.toNat (w64 (Int.tdiv i (64 : Int)))) ((2 : UInt64) * (List.getD (Vector.toList a) (Int.toNat (w64 (Int.tdiv i (64 : Int)))) (0 : UInt64))))) (Int.toNat (w64 (Int.tdiv i (64 : Int)))) (0 : UInt64)) + (1 : UInt64))))
            else (ref03_Number_h0 k (w64 (i - (1 : Int))) l t2 (Vector.setIfInBounds a (Int.toNat (w64 (Int.tdiv i (64 : Int)))) ((2 : UInt64) * (List.getD (Vector.toList a) (Int.toNat (w64 (Int.tdiv i (64 : Int)))) (0 : UInt64)))))
        else none
      else none)
      else (some a)) := by kernel_rfl
/-- moneyer/moneyerref03.Number -/
def ref03_Number (k : Nat) (l : Vector Bool 256) : Option (Vector UInt64 4) :=
  ref03_Number_h0 k (255 : Int) l (Vector.replicate (4 : Nat) (0 : UInt64)) (Vector.replicate (4 : Nat) (0 : UInt64))
theorem ref03_Number_q (k : Nat) (l : Vector Bool 256) : ref03_Number k l = (ref03_Number_h0 k (255 : Int) l (Vector.replicate (4 : Nat) (0 : UInt64)) (Vector.replicate (4 : Nat) (0 : UInt64))) := by kernel_rfl
theorem ref03_Number_spec (l : Vector Bool 256) : ∃ k, ref03_Number k l = some (uW (bV l)) := by
  show Ev (fun k => ref03_Number k l) _
  refine Ev.same (fun k => ref03_Number_q k l) ?_
  let Inv : Nat → Vector UInt64 4 → Prop := fun i a => ∀ q, q < 4 → gW a q = if i ≤ 64 * q then bV l / 2 ^ (64 * q) % 18446744073709551616 else if i < 64 * (q + 1) then bV l / 2 ^ i % 2 ^ (64 * (q + 1) - i) else 0
  have gen : ∀ i a, i ≤ 256 → Inv i a → Ev (fun f => ref03_Number_h0 f ((i : Int) - 1) l (Vector.replicate 4 0) a) (uW (bV l)) := by
    intro i
    induction i with
    | zero =>
      intro a _ h
      refine Ev.done fun f => ?_
      rw [ref03_Number_h0_q, bif_neg (by omega)]
      refine congrArg some (w_ext fun q hq => ?_)
      rw [h q hq, if_pos (by omega), uW_get _ _ hq, Nat.pow_mul]
    | succ i ih =>
      intro a hi h
      have ed : Int.tdiv (i : Int) 64 = ((i / 64 : Nat) : Int) := rfl
      have hq0 : i / 64 < 4 := by omega
      have hold := h (i / 64) hq0
      have hbit : (List.getD (Vector.toList l) i false).toNat = bV l / 2 ^ i % 2 := by rw [← bV_bit, bit_nat]
      have hnew : 2 * gW a (i / 64) + (List.getD (Vector.toList l) i false).toNat = if i ≤ 64 * (i / 64) then bV l / 2 ^ (64 * (i / 64)) % 18446744073709551616 else bV l / 2 ^ i % 2 ^ (64 * (i / 64 + 1) - i) := by
        have e : (if i ≤ 64 * (i / 64) then bV l / 2 ^ (64 * (i / 64)) % 18446744073709551616 else bV l / 2 ^ i % 2 ^ (64 * (i / 64 + 1) - i)) = bV l / 2 ^ i % 2 ^ (64 * (i / 64 + 1) - i) := by
          split
          · have : 64 * (i / 64) = i := by omega
            rw [this, show 64 * (i / 64 + 1) - i = 64 by omega]
          · rfl
        rw [e, hold, hbit, if_neg (by omega)]
        by_cases hb : i + 1 < 64 * (i / 64 + 1)
        · rw [if_pos hb, show 64 * (i / 64 + 1) - i = (64 * (i / 64 + 1) - (i + 1)) + 1 by omega, Nat.pow_succ (m := 64 * (i / 64 + 1) - (i + 1)), Nat.mul_comm (2 ^ (64 * (i / 64 + 1) - (i + 1))) 2, Nat.mod_mul, Nat.pow_succ, ← Nat.div_div_eq_div_mul]
          omega
        · rw [if_neg hb, show 64 * (i / 64 + 1) - i = 1 by omega]
          omega
      have hlt : 2 * gW a (i / 64) + (List.getD (Vector.toList l) i false).toNat < 18446744073709551616 := by
        rw [hnew]
        split
        · exact Nat.mod_lt _ (by omega)
        · refine Nat.lt_of_lt_of_le (Nat.mod_lt _ (Nat.two_pow_pos _)) ?_
          have : 2 ^ (64 * (i / 64 + 1) - i) ≤ 2 ^ 64 := Nat.pow_le_pow_right (by decide) (by omega)
          exact this
      have fin : ∀ x : UInt64, x.toNat = 2 * gW a (i / 64) + (List.getD (Vector.toList l) i false).toNat → Inv i (Vector.setIfInBounds a (i / 64) x) := by
        intro x hx q hq
        unfold gW
        rw [vget_set _ _ _ _ _ hq0]
        by_cases e : i / 64 = q
        · subst e
          rw [if_pos rfl, hx, hnew]
          split
          · rfl
          · rw [if_pos (by omega)]
        · rw [if_neg e]
          have := h q hq
          unfold gW at this
          rw [this]
          by_cases c1 : i + 1 ≤ 64 * q
          · rw [if_pos c1, if_pos (by omega)]
          · rw [if_neg c1, if_neg (by omega), if_neg (by omega), if_neg (by omega)]
      have e1 : ((i + 1 : Nat) : Int) - 1 = (i : Int) := by omega
      have hg : gW a (i / 64) = (List.getD (Vector.toList a) (i / 64) 0).toNat := rfl
      have e2 : ((2 : UInt64) * List.getD (Vector.toList a) (i / 64) 0).toNat = 2 * gW a (i / 64) := by
        rw [UInt64.toNat_mul, ← hg, show (2 : UInt64).toNat = 2 from rfl]
        omega
      cases hb : List.getD (Vector.toList l) i false with
      | true =>
        rw [hb] at fin hlt
        simp only [Bool.toNat_true] at fin hlt
        refine Ev.step (fun f => ?_) (ih (Vector.setIfInBounds a (i / 64) ((2 : UInt64) * List.getD (Vector.toList a) (i / 64) 0 + 1)) (by omega) (fin _ (by rw [UInt64.toNat_add, e2, show (1 : UInt64).toNat = 1 from rfl]; omega)))
        rw [e1, ref03_Number_h0_q, bif_pos (by omega), ed, w64_id (by omega) (by omega), if_pos (by omega), if_pos (by omega), Int.toNat_natCast, Int.toNat_natCast, hb, cond_true, w64_id (by omega) (by omega)]
        rw [vget_set _ _ _ _ _ hq0, if_pos rfl]
        congr 1
        refine vext 0 fun j hj => ?_
        rw [vget_set _ _ _ _ _ hq0, vget_set _ _ _ _ _ hq0, vget_set _ _ _ _ _ hq0]
        split <;> rfl
      | false =>
        rw [hb] at fin
        simp only [Bool.toNat_false, Nat.add_zero] at fin
        refine Ev.step (fun f => ?_) (ih (Vector.setIfInBounds a (i / 64) ((2 : UInt64) * List.getD (Vector.toList a) (i / 64) 0)) (by omega) (fin _ e2))
        rw [e1, ref03_Number_h0_q, bif_pos (by omega), ed, w64_id (by omega) (by omega), if_pos (by omega), if_pos (by omega), Int.toNat_natCast, Int.toNat_natCast, hb, cond_false, w64_id (by omega) (by omega)]
  refine gen 256 _ (Nat.le_refl _) fun q hq => ?_
  rw [if_neg (by omega), if_neg (by omega)]
  unfold gW
  rw [vget_rep]
  rfl

end
end Go.Proofs.Ytepcjobghbanmaa.M

namespace Go.Proofs.Ytepcjobghbanmaa.M
open Go
noncomputable section
/-- moneyer/moneyerref03.Add -/
def ref03_Add (a : Vector UInt64 4) (b : Vector UInt64 4) : Vector UInt64 4 × Bool :=
  ((uW (bV (bitsV (((bV (bitsV (uV a))) + (bV (bitsV (uV b)))) + (Bool.toNat false))))), (decide ((115792089237316195423570985008687907853269984665640564039457584007913129639936 : Nat) ≤ (((bV (bitsV (uV a))) + (bV (bitsV (uV b)))) + (Bool.toNat false)))))
theorem ref03_Add_q (a : Vector UInt64 4) (b : Vector UInt64 4) : ref03_Add a b = (((uW (bV (bitsV (((bV (bitsV (uV a))) + (bV (bitsV (uV b)))) + (Bool.toNat false))))), (decide ((115792089237316195423570985008687907853269984665640564039457584007913129639936 : Nat) ≤ (((bV (bitsV (uV a))) + (bV (bitsV (uV b)))) + (Bool.toNat false)))))) := by kernel_rfl
theorem bV_bitsU (a : Vector UInt64 4) : bV (bitsV (uV a)) = uV a := by
  rw [bV_bitsV, two256, Nat.mod_eq_of_lt (uV_lt a)]
theorem ref03_Add_spec0 (a b : Vector UInt64 4) : ref03_Add a b = addS a b := by
  rw [ref03_Add]
  simp only [bV_bitsU, Bool.toNat_false, Nat.add_zero]
  rw [bV_bitsV, two256, uW_mod]
  rfl

theorem ref03_Add_spec (a b : Vector UInt64 4) : ref03_Add a b = (addV a b, addB a b) := by
  rw [← addS_eq]
  exact ref03_Add_spec0 a b

end
end Go.Proofs.Ytepcjobghbanmaa.M

namespace Go.Proofs.Ytepcjobghbanmaa.M
open Go
noncomputable section
/-- the loop 0 of moneyer/moneyerref03.not -/
def ref03_not_h0 : Nat → Int → (Vector Bool 256) → (Vector Bool 256) → Option (Vector Bool 256)
  | 0, _, _, _ => none
  | k + 1, i, x_, t2 => bif decide (i < (256 : Int)) then (if ((0 : Int) ≤ i) ∧ (i < (256 : Int)) then
        ref03_not_h0 k (w64 (i + (1 : Int))) (Vector.setIfInBounds x_ (Int.toNat i) (!(List.getD (Vector.toList x_) (Int.toNat i) false))) t2
      else none)
      else (some x_)
theorem ref03_not_h0_q (k : Nat) (i : Int) (x_ : Vector Bool 256) (t2 : Vector Bool 256) : ref03_not_h0 (k + 1) i x_ t2 =
  (bif decide (i < (256 : Int)) then (if ((0 : Int) ≤ i) ∧ (i < (256 : Int)) then
        ref03_not_h0 k (w64 (i + (1 : Int))) (Vector.setIfInBounds x_ (Int.toNat i) (!(List.getD (Vector.toList x_) (Int.toNat i) false))) t2
      else none)
      else (some x_)) := by kernel_rfl
/-- moneyer/moneyerref03.not -/
def ref03_not (k : Nat) (x_0 : Vector Bool 256) : Option (Vector Bool 256) :=
  ref03_not_h0 k (0 : Int) x_0 (Vector.replicate (256 : Nat) false)
theorem ref03_not_q (k : Nat) (x_0 : Vector Bool 256) : ref03_not k x_0 = (ref03_not_h0 k (0 : Int) x_0 (Vector.replicate (256 : Nat) false)) := by kernel_rfl
theorem ref03_not_spec (x : Vector Bool 256) : ∃ k, ref03_not k x = some (bNot x) := by
  show Ev (fun k => ref03_not k x) _
  refine Ev.same (fun k => ref03_not_q k x) ?_
  refine Ev.upI (H := fun k i y => ref03_not_h0 k i y (Vector.replicate 256 false)) (lo := 0) (n := 256) (step := fun i y => Vector.setIfInBounds y i (!(List.getD (Vector.toList x) i false)))
    (fun i y => ∀ j, i ≤ j → j < 256 → List.getD (Vector.toList y) j false = List.getD (Vector.toList x) j false) ?_ ?_ 256 0 x (Nat.le_refl 0) rfl (fun _ _ _ => rfl) ?_
  · intro i y _ hi h j hj hj2
    rw [vget_set _ _ _ _ _ hi, if_neg (by omega)]
    exact h j (by omega) hj2
  · intro i y _ hi h e
    refine Ev.step (fun f => ?_) e
    rw [ref03_not_h0_q, bif_pos (by omega), if_pos (by omega), Int.toNat_natCast, h i (Nat.le_refl i) hi, w64_id (by omega) (by omega)]
  · refine Ev.done fun f => ?_
    rw [ref03_not_h0_q, bif_neg (by omega), iterUp_fill (fun i => !(List.getD (Vector.toList x) i false))]
    rfl

end
end Go.Proofs.Ytepcjobghbanmaa.M

namespace Go.Proofs.Ytepcjobghbanmaa.M
open Go
noncomputable section
/-- moneyer/moneyerref03.Sub -/
def ref03_Sub (a : Vector UInt64 4) (b : Vector UInt64 4) : Vector UInt64 4 × Bool :=
  ((uW (bV (bitsV (((bV (bitsV (uV a))) + (bV (bNot (bitsV (uV b))))) + (Bool.toNat true))))), (!(decide ((115792089237316195423570985008687907853269984665640564039457584007913129639936 : Nat) ≤ (((bV (bitsV (uV a))) + (bV (bNot (bitsV (uV b))))) + (Bool.toNat true))))))
theorem ref03_Sub_q (a : Vector UInt64 4) (b : Vector UInt64 4) : ref03_Sub a b = (((uW (bV (bitsV (((bV (bitsV (uV a))) + (bV (bNot (bitsV (uV b))))) + (Bool.toNat true))))), (!(decide ((115792089237316195423570985008687907853269984665640564039457584007913129639936 : Nat) ≤ (((bV (bitsV (uV a))) + (bV (bNot (bitsV (uV b))))) + (Bool.toNat true))))))) := by kernel_rfl
theorem ref03_Sub_spec0 (a b : Vector UInt64 4) : ref03_Sub a b = subS a b := by
  have h := bNot_val (bitsV (uV b))
  have hb : bV (bitsV (uV b)) = uV b := by rw [bV_bitsV, two256, Nat.mod_eq_of_lt (uV_lt b)]
  have ha : bV (bitsV (uV a)) = uV a := by rw [bV_bitsV, two256, Nat.mod_eq_of_lt (uV_lt a)]
  rw [hb] at h
  have hlt := uV_lt b
  rw [ref03_Sub]
  unfold subS
  simp only [ha, Bool.toNat_true]
  rw [bV_bitsV, two256, uW_mod]
  have e : uV a + bV (bNot (bitsV (uV b))) + 1 = uV a + 115792089237316195423570985008687907853269984665640564039457584007913129639936 - uV b := by omega
  rw [e]
  refine Prod.ext rfl ?_
  show (!decide _) = decide _
  rw [← decide_not, decide_eq_decide]
  omega

theorem ref03_Sub_spec (a b : Vector UInt64 4) : ref03_Sub a b = (subV a b, subB a b) := by
  rw [subV_eq, subB_eq]
  exact ref03_Sub_spec0 a b

end
end Go.Proofs.Ytepcjobghbanmaa.M

namespace Go.Proofs.Ytepcjobghbanmaa.M
open Go
noncomputable section
set_option maxRecDepth 100000
noncomputable def ref03_Bits_T : Tbl := []
noncomputable def ref03_Bits_C : CfgW := mkC Try.prog noG ref03_Bits_T 29 0 false
def ref03_Bits_lv : Nat → List Nat := fun i => bif Nat.beq i 2 then [1, 2, 3, 4, 5, 6] else bif Nat.beq i 0 then [1, 2, 3, 4] else []
noncomputable abbrev ref03_Bits_b : Code := Try.f54.body.getD .skip
noncomputable abbrev ref03_Bits_r : List ResultVar := Try.f54.results.toList
def ref03_Bits_hs : List Nat := []

def ref03_Bits_enc (r : Vector Bool 256) : CallOut := ⟨.pv (.arr .b 256 r), [], true, []⟩
def ref03_Bits_s0 (i : Int) (a : Vector UInt64 4) (t2 : Vector Bool 256) (l : Vector Bool 256) : St := ⟨[(1, .p 60000 []), (2, .p 60001 []), (3, .p 60002 []), (4, .pv (.sc .i i))], [(60000, .box (.pv (.arr .u64 4 a))), (60001, .box (.pv (.arr .b 256 t2))), (60002, .box (.pv (.arr .b 256 l)))]⟩
def ref03_Bits_s2 (i : Int) (n : UInt64) (k_ : Int) (a : Vector UInt64 4) (t2 : Vector Bool 256) (l : Vector Bool 256) : St := ⟨[(1, .p 60000 []), (2, .p 60001 []), (3, .p 60002 []), (4, .pv (.sc .i i)), (5, .pv (.sc .u64 n)), (6, .pv (.sc .i k_))], [(60000, .box (.pv (.arr .u64 4 a))), (60001, .box (.pv (.arr .b 256 t2))), (60002, .box (.pv (.arr .b 256 l)))]⟩
theorem ref03_Bits_g0 (i : Int) (a : Vector UInt64 4) (t2 : Vector Bool 256) (l : Vector Bool 256) (Q : CallOut → Prop) : headRound ref03_Bits_C ref03_Bits_lv [true, true, false, true, false] ref03_Bits_b (ref03_Bits_s0 i a t2 l) (fnK ref03_Bits_C ref03_Bits_r ref03_Bits_hs Q) =
    (condP (decide (i < (256 : Int))) (((64 : Int) ≠ (0 : Int)) ∧ ((((0 : Int) ≤ (w64 (Int.tdiv i (64 : Int)))) ∧ ((w64 (Int.tdiv i (64 : Int))) < (4 : Int))) ∧ (headP ref03_Bits_C ref03_Bits_lv [true, true, false, true, false, false, true, false, false, true, false, true, false] ref03_Bits_b (ref03_Bits_s2 i (List.getD (Vector.toList a) (Int.toNat (w64 (Int.tdiv i (64 : Int)))) (0 : UInt64)) (0 : Int) a t2 l) (fnK ref03_Bits_C ref03_Bits_r ref03_Bits_hs Q)))) (Q (ref03_Bits_enc l))) := by kernel_rfl
theorem ref03_Bits_g2 (i : Int) (n : UInt64) (k_ : Int) (a : Vector UInt64 4) (t2 : Vector Bool 256) (l : Vector Bool 256) (Q : CallOut → Prop) : headRound ref03_Bits_C ref03_Bits_lv [true, true, false, true, false, false, true, false, false, true, false, true, false] ref03_Bits_b (ref03_Bits_s2 i n k_ a t2 l) (fnK ref03_Bits_C ref03_Bits_r ref03_Bits_hs Q) =
    (((64 : Int) ≠ (0 : Int)) ∧ (condP (decide (k_ < (Int.tmod i (64 : Int)))) (((2 : UInt64) ≠ (0 : UInt64)) ∧ (headP ref03_Bits_C ref03_Bits_lv [true, true, false, true, false, false, true, false, false, true, false, true, false] ref03_Bits_b (ref03_Bits_s2 i (n / (2 : UInt64)) (w64 (k_ + (1 : Int))) a t2 l) (fnK ref03_Bits_C ref03_Bits_r ref03_Bits_hs Q))) (((2 : UInt64) ≠ (0 : UInt64)) ∧ ((((0 : Int) ≤ i) ∧ (i < (256 : Int))) ∧ (headP ref03_Bits_C ref03_Bits_lv [true, true, false, true, false] ref03_Bits_b (ref03_Bits_s0 (w64 (i + (1 : Int))) a t2 (Vector.setIfInBounds l (Int.toNat i) (decide ((n % (2 : UInt64)) = (1 : UInt64))))) (fnK ref03_Bits_C ref03_Bits_r ref03_Bits_hs Q)))))) := by kernel_rfl
theorem ref03_Bits_k0 {r : Vector Bool 256} {Q : CallOut → Prop} (hQ : Q (ref03_Bits_enc r)) : ∀ k : Nat, (∀ (i : Int) (a : Vector UInt64 4) (t2 : Vector Bool 256) (l : Vector Bool 256), ref03_Bits_h0 k i a t2 l = some r → headP ref03_Bits_C ref03_Bits_lv [true, true, false, true, false] ref03_Bits_b (ref03_Bits_s0 i a t2 l) (fnK ref03_Bits_C ref03_Bits_r ref03_Bits_hs Q)) ∧ (∀ (i : Int) (n : UInt64) (k_ : Int) (a : Vector UInt64 4) (t2 : Vector Bool 256) (l : Vector Bool 256), ref03_Bits_h2 k i n k_ a t2 l = some r → headP ref03_Bits_C ref03_Bits_lv [true, true, false, true, false, false, true, false, false, true, false, true, false] ref03_Bits_b (ref03_Bits_s2 i n k_ a t2 l) (fnK ref03_Bits_C ref03_Bits_r ref03_Bits_hs Q))
  | 0 => ⟨fun _ _ _ _ h => no_ok h, fun _ _ _ _ _ _ h => no_ok h⟩
  | k + 1 => ⟨fun i a t2 l h => headP_step (Eq.mpr (ref03_Bits_g0 i a t2 l Q) (have h := (ref03_Bits_h0_q k i a t2 l).symm.trans h; cond_ok h (fun h => ⟨by decide +kernel, ite_ok h fun hc0 h => (ref03_Bits_k0 hQ k).2 _ _ _ _ _ _ h⟩) (fun h => ret_ok (Q := Q) (e := ref03_Bits_enc) h hQ))),
    fun i n k_ a t2 l h => headP_step (Eq.mpr (ref03_Bits_g2 i n k_ a t2 l Q) (have h := (ref03_Bits_h2_q k i n k_ a t2 l).symm.trans h; ⟨by decide +kernel, cond_ok h (fun h => ⟨by decide +kernel, (ref03_Bits_k0 hQ k).2 _ _ _ _ _ _ h⟩) (fun h => ⟨by decide +kernel, ite_ok h fun hc0 h => (ref03_Bits_k0 hQ k).1 _ _ _ _ h⟩)⟩))⟩
theorem ref03_Bits_e (a : Vector UInt64 4) (Q : CallOut → Prop) : evalFnP ref03_Bits_C ref03_Bits_lv ref03_Bits_r ref03_Bits_hs ref03_Bits_b [.pv (.arr .u64 4 a)] [] Q =
    (headP ref03_Bits_C ref03_Bits_lv [true, true, false, true, false] ref03_Bits_b (ref03_Bits_s0 (0 : Int) a (Vector.replicate (256 : Nat) false) (Vector.replicate (256 : Nat) false)) (fnK ref03_Bits_C ref03_Bits_r ref03_Bits_hs Q)) := by kernel_rfl
theorem ref03_Bits_w {k : Nat} (a : Vector UInt64 4) {r} {Q : CallOut → Prop} (h : ref03_Bits k a = some r) (hQ : Q (ref03_Bits_enc r)) : evalFnP ref03_Bits_C ref03_Bits_lv ref03_Bits_r ref03_Bits_hs ref03_Bits_b [.pv (.arr .u64 4 a)] [] Q :=
  Eq.mpr (ref03_Bits_e a Q) (have h := (ref03_Bits_q k a).symm.trans h; (ref03_Bits_k0 hQ _).1 _ _ _ _ h)
def ref03_Bits_c : Ans
  | [.pv (.arr .u64 4 a)], [] => some (none, ref03_Bits_enc (bitsV (uV a)))
  | _, _ => none
theorem ref03_Bits_tok : TblOK Try.prog noG ref03_Bits_T := .nil
theorem ref03_Bits_ok : FnOK Try.prog noG 54 (unW ref03_Bits_c) := by
  refine FnOK.ofC (T := ref03_Bits_T) (nt := 29) (np := 0) (nf := false) (hs := ref03_Bits_hs) (fn := Try.f54) (body := ref03_Bits_b) ref03_Bits_tok (by kernel_rfl) (by kernel_rfl) (by kernel_rfl) (by kernel_rfl) (c := ref03_Bits_c) (lv := ref03_Bits_lv) ?_
  intro xs mem p out h hp
  unfold ref03_Bits_c at h
  split at h
  · cases h
    obtain ⟨k, hk⟩ := ref03_Bits_spec _
    exact ref03_Bits_w _ hk rfl
  · cases h
end
end Go.Proofs.Ytepcjobghbanmaa.M

namespace Go.Proofs.Ytepcjobghbanmaa.M
open Go
noncomputable section
set_option maxRecDepth 100000
noncomputable def ref03_sum_T : Tbl := []
noncomputable def ref03_sum_C : CfgW := mkC Try.prog noG ref03_sum_T 37 0 false
def ref03_sum_lv : Nat → List Nat := fun i => bif Nat.beq i 0 then [2, 3, 4, 6, 8, 9] else []
noncomputable abbrev ref03_sum_b : Code := Try.f58.body.getD .skip
noncomputable abbrev ref03_sum_r : List ResultVar := Try.f58.results.toList
def ref03_sum_hs : List Nat := []

def ref03_sum_enc (r : Vector Bool 256 × Bool) : CallOut := ⟨.tup [.pv (.arr .b 256 r.1), .pv (.sc .b r.2)], [], true, []⟩
def ref03_sum_s0 (carry : Bool) (i : Int) (x_ : Vector Bool 256) (y : Vector Bool 256) (t6 : Vector Bool 256) (out : Vector Bool 256) : St := ⟨[(2, .pv (.sc .b carry)), (3, .p 60000 []), (4, .p 60001 []), (6, .p 60002 []), (8, .p 60003 []), (9, .pv (.sc .i i))], [(60000, .box (.pv (.arr .b 256 x_))), (60001, .box (.pv (.arr .b 256 y))), (60002, .box (.pv (.arr .b 256 t6))), (60003, .box (.pv (.arr .b 256 out)))]⟩
theorem ref03_sum_g0 (carry : Bool) (i : Int) (x_ : Vector Bool 256) (y : Vector Bool 256) (t6 : Vector Bool 256) (out : Vector Bool 256) (Q : CallOut → Prop) : headRound ref03_sum_C ref03_sum_lv [true, true, false, true, false] ref03_sum_b (ref03_sum_s0 carry i x_ y t6 out) (fnK ref03_sum_C ref03_sum_r ref03_sum_hs Q) =
    (condP (decide (i < (256 : Int))) ((((0 : Int) ≤ i) ∧ (i < (256 : Int))) ∧ (condP (List.getD (Vector.toList x_) (Int.toNat i) false) ((((0 : Int) ≤ i) ∧ (i < (256 : Int))) ∧ (condP (List.getD (Vector.toList y) (Int.toNat i) false) (condP carry (((2 : Int) ≠ (0 : Int)) ∧ ((((0 : Int) ≤ i) ∧ (i < (256 : Int))) ∧ (headP ref03_sum_C ref03_sum_lv [true, true, false, true, false] ref03_sum_b (ref03_sum_s0 (decide ((2 : Int) ≤ (3 : Int))) (w64 (i + (1 : Int))) x_ y t6 (Vector.setIfInBounds out (Int.toNat i) (decide ((1 : Int) = (1 : Int))))) (fnK ref03_sum_C ref03_sum_r ref03_sum_hs Q)))) (((2 : Int) ≠ (0 : Int)) ∧ ((((0 : Int) ≤ i) ∧ (i < (256 : Int))) ∧ (headP ref03_sum_C ref03_sum_lv [true, true, false, true, false] ref03_sum_b (ref03_sum_s0 (decide ((2 : Int) ≤ (2 : Int))) (w64 (i + (1 : Int))) x_ y t6 (Vector.setIfInBounds out (Int.toNat i) (decide ((0 : Int) = (1 : Int))))) (fnK ref03_sum_C ref03_sum_r ref03_sum_hs Q))))) (condP carry (((2 : Int) ≠ (0 : Int)) ∧ ((((0 : Int) ≤ i) ∧ (i < (256 : Int))) ∧ (headP ref03_sum_C ref03_sum_lv [true, true, false, true, false] ref03_sum_b (ref03_sum_s0 (decide ((2 : Int) ≤ (2 : Int))) (w64 (i + (1 : Int))) x_ y t6 (Vector.setIfInBounds out (Int.toNat i) (decide ((0 : Int) = (1 : Int))))) (fnK ref03_sum_C ref03_sum_r ref03_sum_hs Q)))) (((2 : Int) ≠ (0 : Int)) ∧ ((((0 : Int) ≤ i) ∧ (i < (256 : Int))) ∧ (headP ref03_sum_C ref03_sum_lv [true, true, false, true, false] ref03_sum_b (ref03_sum_s0 (decide ((2 : Int) ≤ (1 : Int))) (w64 (i + (1 : Int))) x_ y t6 (Vector.setIfInBounds out (Int.toNat i) (decide ((1 : Int) = (1 : Int))))) (fnK ref03_sum_C ref03_sum_r ref03_sum_hs Q))))))) ((((0 : Int) ≤ i) ∧ (i < (256 : Int))) ∧ (condP (List.getD (Vector.toList y) (Int.toNat i) false) (condP carry (((2 : Int) ≠ (0 : Int)) ∧ ((((0 : Int) ≤ i) ∧ (i < (256 : Int))) ∧ (headP ref03_sum_C ref03_sum_lv [true, true, false, true, false] ref03_sum_b (ref03_sum_s0 (decide ((2 : Int) ≤ (2 : Int))) (w64 (i + (1 : Int))) x_ y t6 (Vector.setIfInBounds out (Int.toNat i) (decide ((0 : Int) = (1 : Int))))) (fnK ref03_sum_C ref03_sum_r ref03_sum_hs Q)))) (((2 : Int) ≠ (0 : Int)) ∧ ((((0 : Int) ≤ i) ∧ (i < (256 : Int))) ∧ (headP ref03_sum_C ref03_sum_lv [true, true, false, true, false] ref03_sum_b (ref03_sum_s0 (decide ((2 : Int) ≤ (1 : Int))) (w64 (i + (1 : Int))) x_ y t6 (Vector.setIfInBounds out (Int.toNat i) (decide ((1 : Int) = (1 : Int))))) (fnK ref03_sum_C ref03_sum_r ref03_sum_hs Q))))) (condP carry (((2 : Int) ≠ (0 : Int)) ∧ ((((0 : Int) ≤ i) ∧ (i < (256 : Int))) ∧ (headP ref03_sum_C ref03_sum_lv [true, true, false, true, false] ref03_sum_b (ref03_sum_s0 (decide ((2 : Int) ≤ (1 : Int))) (w64 (i + (1 : Int))) x_ y t6 (Vector.setIfInBounds out (Int.toNat i) (decide ((1 : Int) = (1 : Int))))) (fnK ref03_sum_C ref03_sum_r ref03_sum_hs Q)))) (((2 : Int) ≠ (0 : Int)) ∧ ((((0 : Int) ≤ i) ∧ (i < (256 : Int))) ∧ (headP ref03_sum_C ref03_sum_lv [true, true, false, true, false] ref03_sum_b (ref03_sum_s0 (decide ((2 : Int) ≤ (0 : Int))) (w64 (i + (1 : Int))) x_ y t6 (Vector.setIfInBounds out (Int.toNat i) (decide ((0 : Int) = (1 : Int))))) (fnK ref03_sum_C ref03_sum_r ref03_sum_hs Q))))))))) (Q (ref03_sum_enc (out, carry)))) := by kernel_rfl
theorem ref03_sum_k0 {r : Vector Bool 256 × Bool} {Q : CallOut → Prop} (hQ : Q (ref03_sum_enc r)) : ∀ k : Nat, (∀ (carry : Bool) (i : Int) (x_ : Vector Bool 256) (y : Vector Bool 256) (t6 : Vector Bool 256) (out : Vector Bool 256), ref03_sum_h0 k carry i x_ y t6 out = some r → headP ref03_sum_C ref03_sum_lv [true, true, false, true, false] ref03_sum_b (ref03_sum_s0 carry i x_ y t6 out) (fnK ref03_sum_C ref03_sum_r ref03_sum_hs Q))
  | 0 => fun _ _ _ _ _ _ h => no_ok h
  | k + 1 => fun carry i x_ y t6 out h => headP_step (Eq.mpr (ref03_sum_g0 carry i x_ y t6 out Q) (have h := (ref03_sum_h0_q k carry i x_ y t6 out).symm.trans h; cond_ok h (fun h => ite_ok h fun hc0 h => cond_ok h (fun h => ⟨hc0, cond_ok h (fun h => cond_ok h (fun h => ⟨by decide +kernel, ⟨hc0, (ref03_sum_k0 hQ k) _ _ _ _ _ _ h⟩⟩) (fun h => ⟨by decide +kernel, ⟨hc0, (ref03_sum_k0 hQ k) _ _ _ _ _ _ h⟩⟩)) (fun h => cond_ok h (fun h => ⟨by decide +kernel, ⟨hc0, (ref03_sum_k0 hQ k) _ _ _ _ _ _ h⟩⟩) (fun h => ⟨by decide +kernel, ⟨hc0, (ref03_sum_k0 hQ k) _ _ _ _ _ _ h⟩⟩))⟩) (fun h => ⟨hc0, cond_ok h (fun h => cond_ok h (fun h => ⟨by decide +kernel, ⟨hc0, (ref03_sum_k0 hQ k) _ _ _ _ _ _ h⟩⟩) (fun h => ⟨by decide +kernel, ⟨hc0, (ref03_sum_k0 hQ k) _ _ _ _ _ _ h⟩⟩)) (fun h => cond_ok h (fun h => ⟨by decide +kernel, ⟨hc0, (ref03_sum_k0 hQ k) _ _ _ _ _ _ h⟩⟩) (fun h => ⟨by decide +kernel, ⟨hc0, (ref03_sum_k0 hQ k) _ _ _ _ _ _ h⟩⟩))⟩)) (fun h => ret_ok (Q := Q) (e := ref03_sum_enc) h hQ)))
theorem ref03_sum_e (x_0 : Vector Bool 256) (y : Vector Bool 256) (carry : Bool) (Q : CallOut → Prop) : evalFnP ref03_sum_C ref03_sum_lv ref03_sum_r ref03_sum_hs ref03_sum_b [.pv (.arr .b 256 x_0), .pv (.arr .b 256 y), .pv (.sc .b carry)] [] Q =
    (headP ref03_sum_C ref03_sum_lv [true, true, false, true, false] ref03_sum_b (ref03_sum_s0 carry (0 : Int) x_0 y (Vector.replicate (256 : Nat) false) (Vector.replicate (256 : Nat) false)) (fnK ref03_sum_C ref03_sum_r ref03_sum_hs Q)) := by kernel_rfl
theorem ref03_sum_w {k : Nat} (x_0 : Vector Bool 256) (y : Vector Bool 256) (carry : Bool) {r} {Q : CallOut → Prop} (h : ref03_sum k x_0 y carry = some r) (hQ : Q (ref03_sum_enc r)) : evalFnP ref03_sum_C ref03_sum_lv ref03_sum_r ref03_sum_hs ref03_sum_b [.pv (.arr .b 256 x_0), .pv (.arr .b 256 y), .pv (.sc .b carry)] [] Q :=
  Eq.mpr (ref03_sum_e x_0 y carry Q) (have h := (ref03_sum_q k x_0 y carry).symm.trans h; (ref03_sum_k0 hQ _) _ _ _ _ _ _ h)
def ref03_sum_c : Ans
  | [.pv (.arr .b 256 x_0), .pv (.arr .b 256 y), .pv (.sc .b carry)], [] => some (none, ref03_sum_enc (sumS x_0 y carry))
  | _, _ => none
theorem ref03_sum_tok : TblOK Try.prog noG ref03_sum_T := .nil
theorem ref03_sum_ok : FnOK Try.prog noG 58 (unW ref03_sum_c) := by
  refine FnOK.ofC (T := ref03_sum_T) (nt := 37) (np := 0) (nf := false) (hs := ref03_sum_hs) (fn := Try.f58) (body := ref03_sum_b) ref03_sum_tok (by kernel_rfl) (by kernel_rfl) (by kernel_rfl) (by kernel_rfl) (c := ref03_sum_c) (lv := ref03_sum_lv) ?_
  intro xs mem p out h hp
  unfold ref03_sum_c at h
  split at h
  · cases h
    obtain ⟨k, hk⟩ := ref03_sum_spec _ _ _
    exact ref03_sum_w _ _ _ hk rfl
  · cases h
end
end Go.Proofs.Ytepcjobghbanmaa.M

namespace Go.Proofs.Ytepcjobghbanmaa.M
open Go
noncomputable section
set_option maxRecDepth 100000
noncomputable def ref03_Number_T : Tbl := []
noncomputable def ref03_Number_C : CfgW := mkC Try.prog noG ref03_Number_T 29 0 false
def ref03_Number_lv : Nat → List Nat := fun i => bif Nat.beq i 0 then [1, 2, 3, 4] else []
noncomputable abbrev ref03_Number_b : Code := Try.f55.body.getD .skip
noncomputable abbrev ref03_Number_r : List ResultVar := Try.f55.results.toList
def ref03_Number_hs : List Nat := []

def ref03_Number_enc (r : Vector UInt64 4) : CallOut := ⟨.pv (.arr .u64 4 r), [], true, []⟩
def ref03_Number_s0 (i : Int) (l : Vector Bool 256) (t2 : Vector UInt64 4) (a : Vector UInt64 4) : St := ⟨[(1, .p 60000 []), (2, .p 60001 []), (3, .p 60002 []), (4, .pv (.sc .i i))], [(60000, .box (.pv (.arr .b 256 l))), (60001, .box (.pv (.arr .u64 4 t2))), (60002, .box (.pv (.arr .u64 4 a)))]⟩
theorem ref03_Number_g0 (i : Int) (l : Vector Bool 256) (t2 : Vector UInt64 4) (a : Vector UInt64 4) (Q : CallOut → Prop) : headRound ref03_Number_C ref03_Number_lv [true, true, false, true, false] ref03_Number_b (ref03_Number_s0 i l t2 a) (fnK ref03_Number_C ref03_Number_r ref03_Number_hs Q) =
    (condP (decide ((0 : Int) ≤ i)) (((64 : Int) ≠ (0 : Int)) ∧ (((64 : Int) ≠ (0 : Int)) ∧ ((((0 : Int) ≤ (w64 (Int.tdiv i (64 : Int)))) ∧ ((w64 (Int.tdiv i (64 : Int))) < (4 : Int))) ∧ ((((0 : Int) ≤ (w64 (Int.tdiv i (64 : Int)))) ∧ ((w64 (Int.tdiv i (64 : Int))) < (4 : Int))) ∧ ((((0 : Int) ≤ i) ∧ (i < (256 : Int))) ∧ (condP (List.getD (Vector.toList l) (Int.toNat i) false) (((64 : Int) ≠ (0 : Int)) ∧ (((64 : Int) ≠ (0 : Int)) ∧ ((((0 : Int) ≤ (w64 (Int.tdiv i (64 : Int)))) ∧ ((w64 (Int.tdiv i (64 : Int))) < (4 : Int))) ∧ ((((0 : Int) ≤ (w64 (Int.tdiv i (64 : Int)))) ∧ ((w64 (Int.tdiv i (64 : Int))) < (4 : Int))) ∧ (headP ref03_Number_C ref03_Number_lv [true, true, false, true, false] ref03_Number_b (ref03_Number_s0 (w64 (i - (1 : Int))) l t2 (Vector.setIfInBounds (Vector.setIfInBounds a (Int.toNat (w64 (Int.tdiv i (64 : Int)))) ((2 : UInt64) * (List.getD (Vector.toList a) (Int.toNat (w64 (Int.tdiv i (64 : Int)))) (0 : UInt64)))) (Int.toNat (w64 (Int.tdiv i (64 : Int)))) ((List.getD (Vector.toList (Vector.setIfInBounds a (Int.toNat (w64 (Int.tdiv i (64 : Int)))) ((2 : UInt64) * (List.getD (Vector.toList a) (Int.toNat (w64 (Int.tdiv i (64 : Int)))) (0 : UInt64))))) (Int.toNat (w64 (Int.tdiv i (64 : Int)))) (0 : UInt64)) + (1 : UInt64)))) (fnK ref03_Number_C ref03_Number_r ref03_Number_hs Q)))))) (headP ref03_Number_C ref03_Number_lv [true, true, false, true, false] ref03_Number_b (ref03_Number_s0 (w64 (i - (1 : Int))) l t2 (Vector.setIfInBounds a (Int.toNat (w64 (Int.tdiv i (64 : Int)))) ((2 : UInt64) * (List.getD (Vector.toList a) (Int.toNat (w64 (Int.tdiv i (64 : Int)))) (0 : UInt64))))) (fnK ref03_Number_C ref03_Number_r ref03_Number_hs Q)))))))) (Q (ref03_Number_enc a))) := by kernel_rfl
theorem ref03_Number_k0 {r : Vector UInt64 4} {Q : CallOut → Prop} (hQ : Q (ref03_Number_enc r)) : ∀ k : Nat, (∀ (i : Int) (l : Vector Bool 256) (t2 : Vector UInt64 4) (a : Vector UInt64 4), ref03_Number_h0 k i l t2 a = some r → headP ref03_Number_C ref03_Number_lv [true, true, false, true, false] ref03_Number_b (ref03_Number_s0 i l t2 a) (fnK ref03_Number_C ref03_Number_r ref03_Number_hs Q))
  | 0 => fun _ _ _ _ h => no_ok h
  | k + 1 => fun i l t2 a h => headP_step (Eq.mpr (ref03_Number_g0 i l t2 a Q) (have h := (ref03_Number_h0_q k i l t2 a).symm.trans h; cond_ok h (fun h => ⟨by decide +kernel, ⟨by decide +kernel, ite_ok h fun hc0 h => ⟨hc0, ite_ok h fun hc1 h => cond_ok h (fun h => ⟨by decide +kernel, ⟨by decide +kernel, ⟨hc0, ⟨hc0, (ref03_Number_k0 hQ k) _ _ _ _ h⟩⟩⟩⟩) (fun h => (ref03_Number_k0 hQ k) _ _ _ _ h)⟩⟩⟩) (fun h => ret_ok (Q := Q) (e := ref03_Number_enc) h hQ)))
theorem ref03_Number_e (l : Vector Bool 256) (Q : CallOut → Prop) : evalFnP ref03_Number_C ref03_Number_lv ref03_Number_r ref03_Number_hs ref03_Number_b [.pv (.arr .b 256 l)] [] Q =
    (headP ref03_Number_C ref03_Number_lv [true, true, false, true, false] ref03_Number_b (ref03_Number_s0 (255 : Int) l (Vector.replicate (4 : Nat) (0 : UInt64)) (Vector.replicate (4 : Nat) (0 : UInt64))) (fnK ref03_Number_C ref03_Number_r ref03_Number_hs Q)) := by kernel_rfl
theorem ref03_Number_w {k : Nat} (l : Vector Bool 256) {r} {Q : CallOut → Prop} (h : ref03_Number k l = some r) (hQ : Q (ref03_Number_enc r)) : evalFnP ref03_Number_C ref03_Number_lv ref03_Number_r ref03_Number_hs ref03_Number_b [.pv (.arr .b 256 l)] [] Q :=
  Eq.mpr (ref03_Number_e l Q) (have h := (ref03_Number_q k l).symm.trans h; (ref03_Number_k0 hQ _) _ _ _ _ h)
def ref03_Number_c : Ans
  | [.pv (.arr .b 256 l)], [] => some (none, ref03_Number_enc (uW (bV l)))
  | _, _ => none
theorem ref03_Number_tok : TblOK Try.prog noG ref03_Number_T := .nil
theorem ref03_Number_ok : FnOK Try.prog noG 55 (unW ref03_Number_c) := by
  refine FnOK.ofC (T := ref03_Number_T) (nt := 29) (np := 0) (nf := false) (hs := ref03_Number_hs) (fn := Try.f55) (body := ref03_Number_b) ref03_Number_tok (by kernel_rfl) (by kernel_rfl) (by kernel_rfl) (by kernel_rfl) (c := ref03_Number_c) (lv := ref03_Number_lv) ?_
  intro xs mem p out h hp
  unfold ref03_Number_c at h
  split at h
  · cases h
    obtain ⟨k, hk⟩ := ref03_Number_spec _
    exact ref03_Number_w _ hk rfl
  · cases h
end
end Go.Proofs.Ytepcjobghbanmaa.M

namespace Go.Proofs.Ytepcjobghbanmaa.M
open Go
noncomputable section
set_option maxRecDepth 100000
noncomputable def ref03_Add_T : Tbl := [(54, [], ref03_Bits_c), (58, [], ref03_sum_c), (55, [], ref03_Number_c)]
noncomputable def ref03_Add_C : CfgW := mkC Try.prog noG ref03_Add_T 19 0 false
def ref03_Add_lv : Nat → List Nat := fun i => []
noncomputable abbrev ref03_Add_b : Code := Try.f21.body.getD .skip
noncomputable abbrev ref03_Add_r : List ResultVar := Try.f21.results.toList
def ref03_Add_hs : List Nat := []

def ref03_Add_enc (r : Vector UInt64 4 × Bool) : CallOut := ⟨.tup [.pv (.arr .u64 4 r.1), .pv (.sc .b r.2)], [], true, []⟩
theorem ref03_Add_e (a : Vector UInt64 4) (b : Vector UInt64 4) (Q : CallOut → Prop) : evalFnP ref03_Add_C ref03_Add_lv ref03_Add_r ref03_Add_hs ref03_Add_b [.pv (.arr .u64 4 a), .pv (.arr .u64 4 b)] [] Q =
    (Q (ref03_Add_enc ((uW (bV (bitsV (((bV (bitsV (uV a))) + (bV (bitsV (uV b)))) + (Bool.toNat false))))), (decide ((115792089237316195423570985008687907853269984665640564039457584007913129639936 : Nat) ≤ (((bV (bitsV (uV a))) + (bV (bitsV (uV b)))) + (Bool.toNat false))))))) := by kernel_rfl
theorem ref03_Add_w (a : Vector UInt64 4) (b : Vector UInt64 4) {Q : CallOut → Prop} (h : Q (ref03_Add_enc (ref03_Add a b))) : evalFnP ref03_Add_C ref03_Add_lv ref03_Add_r ref03_Add_hs ref03_Add_b [.pv (.arr .u64 4 a), .pv (.arr .u64 4 b)] [] Q :=
  Eq.mpr (ref03_Add_e a b Q) (have h := Eq.mp (congrArg (fun r => Q (ref03_Add_enc r)) (ref03_Add_q a b)) h; h)
def ref03_Add_c : Ans
  | [.pv (.arr .u64 4 a), .pv (.arr .u64 4 b)], [] => some (none, ref03_Add_enc ((addV a b, addB a b)))
  | _, _ => none
theorem ref03_Add_tok : TblOK Try.prog noG ref03_Add_T := .cons ⟨by kernel_rfl, ref03_Bits_ok⟩ (.cons ⟨by kernel_rfl, ref03_sum_ok⟩ (.cons ⟨by kernel_rfl, ref03_Number_ok⟩ (.nil)))
theorem ref03_Add_ok : FnOK Try.prog noG 21 (unW ref03_Add_c) := by
  refine FnOK.ofC (T := ref03_Add_T) (nt := 19) (np := 0) (nf := false) (hs := ref03_Add_hs) (fn := Try.f21) (body := ref03_Add_b) ref03_Add_tok (by kernel_rfl) (by kernel_rfl) (by kernel_rfl) (by kernel_rfl) (c := ref03_Add_c) (lv := ref03_Add_lv) ?_
  intro xs mem p out h hp
  unfold ref03_Add_c at h
  split at h
  · cases h
    exact ref03_Add_w _ _ (congrArg ref03_Add_enc (ref03_Add_spec _ _))
  · cases h
end
end Go.Proofs.Ytepcjobghbanmaa.M

namespace Go.Proofs.Ytepcjobghbanmaa.M
open Go
noncomputable section
set_option maxRecDepth 100000
noncomputable def ref03_not_T : Tbl := []
noncomputable def ref03_not_C : CfgW := mkC Try.prog noG ref03_not_T 15 0 false
def ref03_not_lv : Nat → List Nat := fun i => bif Nat.beq i 0 then [1, 2, 3] else []
noncomputable abbrev ref03_not_b : Code := Try.f60.body.getD .skip
noncomputable abbrev ref03_not_r : List ResultVar := Try.f60.results.toList
def ref03_not_hs : List Nat := []

def ref03_not_enc (r : Vector Bool 256) : CallOut := ⟨.pv (.arr .b 256 r), [], true, []⟩
def ref03_not_s0 (i : Int) (x_ : Vector Bool 256) (t2 : Vector Bool 256) : St := ⟨[(1, .p 60000 []), (2, .p 60001 []), (3, .pv (.sc .i i))], [(60000, .box (.pv (.arr .b 256 x_))), (60001, .box (.pv (.arr .b 256 t2)))]⟩
theorem ref03_not_g0 (i : Int) (x_ : Vector Bool 256) (t2 : Vector Bool 256) (Q : CallOut → Prop) : headRound ref03_not_C ref03_not_lv [true, false, true, false] ref03_not_b (ref03_not_s0 i x_ t2) (fnK ref03_not_C ref03_not_r ref03_not_hs Q) =
    (condP (decide (i < (256 : Int))) ((((0 : Int) ≤ i) ∧ (i < (256 : Int))) ∧ ((((0 : Int) ≤ i) ∧ (i < (256 : Int))) ∧ (headP ref03_not_C ref03_not_lv [true, false, true, false] ref03_not_b (ref03_not_s0 (w64 (i + (1 : Int))) (Vector.setIfInBounds x_ (Int.toNat i) (!(List.getD (Vector.toList x_) (Int.toNat i) false))) t2) (fnK ref03_not_C ref03_not_r ref03_not_hs Q)))) (Q (ref03_not_enc x_))) := by kernel_rfl
theorem ref03_not_k0 {r : Vector Bool 256} {Q : CallOut → Prop} (hQ : Q (ref03_not_enc r)) : ∀ k : Nat, (∀ (i : Int) (x_ : Vector Bool 256) (t2 : Vector Bool 256), ref03_not_h0 k i x_ t2 = some r → headP ref03_not_C ref03_not_lv [true, false, true, false] ref03_not_b (ref03_not_s0 i x_ t2) (fnK ref03_not_C ref03_not_r ref03_not_hs Q))
  | 0 => fun _ _ _ h => no_ok h
  | k + 1 => fun i x_ t2 h => headP_step (Eq.mpr (ref03_not_g0 i x_ t2 Q) (have h := (ref03_not_h0_q k i x_ t2).symm.trans h; cond_ok h (fun h => ite_ok h fun hc0 h => ⟨hc0, (ref03_not_k0 hQ k) _ _ _ h⟩) (fun h => ret_ok (Q := Q) (e := ref03_not_enc) h hQ)))
theorem ref03_not_e (x_0 : Vector Bool 256) (Q : CallOut → Prop) : evalFnP ref03_not_C ref03_not_lv ref03_not_r ref03_not_hs ref03_not_b [.pv (.arr .b 256 x_0)] [] Q =
    (headP ref03_not_C ref03_not_lv [true, false, true, false] ref03_not_b (ref03_not_s0 (0 : Int) x_0 (Vector.replicate (256 : Nat) false)) (fnK ref03_not_C ref03_not_r ref03_not_hs Q)) := by kernel_rfl
theorem ref03_not_w {k : Nat} (x_0 : Vector Bool 256) {r} {Q : CallOut → Prop} (h : ref03_not k x_0 = some r) (hQ : Q (ref03_not_enc r)) : evalFnP ref03_not_C ref03_not_lv ref03_not_r ref03_not_hs ref03_not_b [.pv (.arr .b 256 x_0)] [] Q :=
  Eq.mpr (ref03_not_e x_0 Q) (have h := (ref03_not_q k x_0).symm.trans h; (ref03_not_k0 hQ _) _ _ _ h)
def ref03_not_c : Ans
  | [.pv (.arr .b 256 x_0)], [] => some (none, ref03_not_enc (bNot x_0))
  | _, _ => none
theorem ref03_not_tok : TblOK Try.prog noG ref03_not_T := .nil
theorem ref03_not_ok : FnOK Try.prog noG 60 (unW ref03_not_c) := by
  refine FnOK.ofC (T := ref03_not_T) (nt := 15) (np := 0) (nf := false) (hs := ref03_not_hs) (fn := Try.f60) (body := ref03_not_b) ref03_not_tok (by kernel_rfl) (by kernel_rfl) (by kernel_rfl) (by kernel_rfl) (c := ref03_not_c) (lv := ref03_not_lv) ?_
  intro xs mem p out h hp
  unfold ref03_not_c at h
  split at h
  · cases h
    obtain ⟨k, hk⟩ := ref03_not_spec _
    exact ref03_not_w _ hk rfl
  · cases h
end
end Go.Proofs.Ytepcjobghbanmaa.M

namespace Go.Proofs.Ytepcjobghbanmaa.M
open Go
noncomputable section
set_option maxRecDepth 100000
noncomputable def ref03_Sub_T : Tbl := [(54, [], ref03_Bits_c), (60, [], ref03_not_c), (58, [], ref03_sum_c), (55, [], ref03_Number_c)]
noncomputable def ref03_Sub_C : CfgW := mkC Try.prog noG ref03_Sub_T 21 0 false
def ref03_Sub_lv : Nat → List Nat := fun i => []
noncomputable abbrev ref03_Sub_b : Code := Try.f23.body.getD .skip
noncomputable abbrev ref03_Sub_r : List ResultVar := Try.f23.results.toList
def ref03_Sub_hs : List Nat := []

def ref03_Sub_enc (r : Vector UInt64 4 × Bool) : CallOut := ⟨.tup [.pv (.arr .u64 4 r.1), .pv (.sc .b r.2)], [], true, []⟩
theorem ref03_Sub_e (a : Vector UInt64 4) (b : Vector UInt64 4) (Q : CallOut → Prop) : evalFnP ref03_Sub_C ref03_Sub_lv ref03_Sub_r ref03_Sub_hs ref03_Sub_b [.pv (.arr .u64 4 a), .pv (.arr .u64 4 b)] [] Q =
    (Q (ref03_Sub_enc ((uW (bV (bitsV (((bV (bitsV (uV a))) + (bV (bNot (bitsV (uV b))))) + (Bool.toNat true))))), (!(decide ((115792089237316195423570985008687907853269984665640564039457584007913129639936 : Nat) ≤ (((bV (bitsV (uV a))) + (bV (bNot (bitsV (uV b))))) + (Bool.toNat true)))))))) := by kernel_rfl
theorem ref03_Sub_w (a : Vector UInt64 4) (b : Vector UInt64 4) {Q : CallOut → Prop} (h : Q (ref03_Sub_enc (ref03_Sub a b))) : evalFnP ref03_Sub_C ref03_Sub_lv ref03_Sub_r ref03_Sub_hs ref03_Sub_b [.pv (.arr .u64 4 a), .pv (.arr .u64 4 b)] [] Q :=
  Eq.mpr (ref03_Sub_e a b Q) (have h := Eq.mp (congrArg (fun r => Q (ref03_Sub_enc r)) (ref03_Sub_q a b)) h; h)
def ref03_Sub_c : Ans
  | [.pv (.arr .u64 4 a), .pv (.arr .u64 4 b)], [] => some (none, ref03_Sub_enc ((subV a b, subB a b)))
  | _, _ => none
theorem ref03_Sub_tok : TblOK Try.prog noG ref03_Sub_T := .cons ⟨by kernel_rfl, ref03_Bits_ok⟩ (.cons ⟨by kernel_rfl, ref03_not_ok⟩ (.cons ⟨by kernel_rfl, ref03_sum_ok⟩ (.cons ⟨by kernel_rfl, ref03_Number_ok⟩ (.nil))))
theorem ref03_Sub_ok : FnOK Try.prog noG 23 (unW ref03_Sub_c) := by
  refine FnOK.ofC (T := ref03_Sub_T) (nt := 21) (np := 0) (nf := false) (hs := ref03_Sub_hs) (fn := Try.f23) (body := ref03_Sub_b) ref03_Sub_tok (by kernel_rfl) (by kernel_rfl) (by kernel_rfl) (by kernel_rfl) (c := ref03_Sub_c) (lv := ref03_Sub_lv) ?_
  intro xs mem p out h hp
  unfold ref03_Sub_c at h
  split at h
  · cases h
    exact ref03_Sub_w _ _ (congrArg ref03_Sub_enc (ref03_Sub_spec _ _))
  · cases h
end
end Go.Proofs.Ytepcjobghbanmaa.M
