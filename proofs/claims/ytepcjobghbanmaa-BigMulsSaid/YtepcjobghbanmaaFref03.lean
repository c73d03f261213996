/- Part of the proofs: what functions of the program do: plain functions, and the walks that show it. No condition. -/
import Derived.KernelRfl
import Derived.Test.YtepcjobghbanmaaProg
import Derived.Test.YtepcjobghbanmaaLd
import Derived.Test.YtepcjobghbanmaaSwords
import Derived.Test.YtepcjobghbanmaaSbigS
set_option linter.unusedVariables false
set_option linter.unusedSimpArgs false
set_option autoImplicit false
namespace Go.Proofs.Ytepcjobghbanmaa.M
open Go
noncomputable section
mutual
/-- the loop 0 of moneyer/moneyerref03.Bits -/
def ref03_Bits_h0 : Nat → Int → (Vector UInt64 4) → (Vector Bool 256) → (Vector Bool 256) → Option (Vector Bool 256)
  | 0, _, _, _, _ => none
  | k + 1, i, a, t2, l => bif decide (i < (256 : Int)) then (if ((0 : Int) ≤ (w64 (Int.tdiv i (64 : Int)))) ∧ ((w64 (Int.tdiv i (64 : Int))) < (4 : Int)) then
        ref03_Bits_h2 k i (List.getD (Vector.toList a) (Int.toNat (w64 (Int.tdiv i (64 : Int)))) (0 : UInt64)) (0 : Int) a t2 l
      else none)
      else (some l)
/-- the loop 2 of moneyer/moneyerref03.Bits -/
def ref03_Bits_h2 : Nat → Int → UInt64 → Int → (Vector UInt64 4) → (Vector Bool 256) → (Vector Bool 256) → Option (Vector Bool 256)
  | 0, _, _, _, _, _, _ => none
  | k + 1, i, n, k_, a, t2, l => bif decide (k_ < (Int.tmod i (64 : Int))) then (ref03_Bits_h2 k i (n / (2 : UInt64)) (w64 (k_ + (1 : Int))) a t2 l)
      else (if ((0 : Int) ≤ i) ∧ (i < (256 : Int)) then
        ref03_Bits_h0 k (w64 (i + (1 : Int))) a t2 (Vector.setIfInBounds l (Int.toNat i) (decide ((n % (2 : UInt64)) = (1 : UInt64))))
      else none)
end
theorem ref03_Bits_h0_q (k : Nat) (i : Int) (a : Vector UInt64 4) (t2 : Vector Bool 256) (l : Vector Bool 256) : ref03_Bits_h0 (k + 1) i a t2 l =
  (bif decide (i < (256 : Int)) then (if ((0 : Int) ≤ (w64 (Int.tdiv i (64 : Int)))) ∧ ((w64 (Int.tdiv i (64 : Int))) < (4 : Int)) then
        ref03_Bits_h2 k i (List.getD (Vector.toList a) (Int.toNat (w64 (Int.tdiv i (64 : Int)))) (0 : UInt64)) (0 : Int) a t2 l
      else none)
      else (some l)) := by kernel_rfl
theorem ref03_Bits_h2_q (k : Nat) (i : Int) (n : UInt64) (k_ : Int) (a : Vector UInt64 4) (t2 : Vector Bool 256) (l : Vector Bool 256) : ref03_Bits_h2 (k + 1) i n k_ a t2 l =
  (bif decide (k_ < (Int.tmod i (64 : Int))) then (ref03_Bits_h2 k i (n / (2 : UInt64)) (w64 (k_ + (1 : Int))) a t2 l)
      else (if ((0 : Int) ≤ i) ∧ (i < (256 : Int)) then
        ref03_Bits_h0 k (w64 (i + (1 : Int))) a t2 (Vector.setIfInBounds l (Int.toNat i) (decide ((n % (2 : UInt64)) = (1 : UInt64))))
      else none)) := by kernel_rfl
/-- moneyer/moneyerref03.Bits -/
def ref03_Bits (k : Nat) (a : Vector UInt64 4) : Option (Vector Bool 256) :=
  ref03_Bits_h0 k (0 : Int) a (Vector.replicate (256 : Nat) false) (Vector.replicate (256 : Nat) false)
theorem ref03_Bits_q (k : Nat) (a : Vector UInt64 4) : ref03_Bits k a = (ref03_Bits_h0 k (0 : Int) a (Vector.replicate (256 : Nat) false) (Vector.replicate (256 : Nat) false)) := by kernel_rfl
theorem ref03_Bits_spec (a : Vector UInt64 4) : ∃ k, ref03_Bits k a = some (bitsV (uV a)) := by
  show Ev (fun k => ref03_Bits k a) _
  refine Ev.same (fun k => ref03_Bits_q k a) ?_
  have inner : ∀ (i : Nat), i < 256 → ∀ (l : Vector Bool 256) (r : Vector Bool 256), Ev (fun f => ref03_Bits_h0 f ((i : Int) + 1) a (Vector.replicate 256 false) (Vector.setIfInBounds l i ((uV a).testBit i))) r →
      Ev (fun f => ref03_Bits_h2 f i (List.getD (Vector.toList a) (i / 64) 0) 0 a (Vector.replicate 256 false) l) r := by
    intro i hi l r e
    have gen : ∀ j k, k + j = i % 64 → ∀ n : UInt64, n.toNat = gW a (i / 64) / 2 ^ k → Ev (fun f => ref03_Bits_h2 f i n ((k : Nat) : Int) a (Vector.replicate 256 false) l) r := by
      have em : Int.tmod (i : Int) 64 = ((i % 64 : Nat) : Int) := rfl
      intro j
      induction j with
      | zero =>
        intro k hk n hn
        refine Ev.step (fun f => ?_) e
        have hb : decide (n % 2 = 1) = (uV a).testBit i := by
          rw [uV_bit a i hi, Nat.testBit_eq_decide_div_mod_eq]
          rw [decide_eq_decide, ← UInt64.toNat_inj, UInt64.toNat_mod, hn]
          rw [show k = i % 64 by omega]
          rfl
        rw [ref03_Bits_h2_q, em, bif_neg (by omega), if_pos (by omega), hb, Int.toNat_natCast, w64_id (by omega) (by omega)]
      | succ j ih =>
        intro k hk n hn
        refine Ev.step (fun f => ?_) (ih (k + 1) (by omega) (n / 2) ?_)
        · rw [ref03_Bits_h2_q, em, bif_pos (by omega), w64_id (by omega) (by omega)]
          rfl
        · rw [UInt64.toNat_div, hn, Nat.pow_succ, ← Nat.div_div_eq_div_mul]
          rfl
    exact gen (i % 64) 0 (by omega) _ (by rw [Nat.pow_zero, Nat.div_one]; rfl)
  refine Ev.up (H := fun k i l => ref03_Bits_h0 k i a (Vector.replicate 256 false) l) (lo := 0) (n := 256) (step := fun i l => Vector.setIfInBounds l i ((uV a).testBit i)) ?_ 256 0 _ (Nat.le_refl 0) rfl ?_
  · intro i l _ hi e
    have ed : Int.tdiv (i : Int) 64 = ((i / 64 : Nat) : Int) := rfl
    refine Ev.step (fun f => ?_) (inner i hi l _ e)
    rw [ref03_Bits_h0_q, bif_pos (by omega), ed, w64_id (by omega) (by omega), if_pos (by omega), Int.toNat_natCast]
  · refine Ev.done fun f => ?_
    rw [ref03_Bits_h0_q, bif_neg (by omega), iterUp_fill (fun i => (uV a).testBit i)]
    rfl

end
end Go.Proofs.Ytepcjobghbanmaa.M

namespace Go.Proofs.Ytepcjobghbanmaa.M
open Go
noncomputable section
/-- the loop 0 of moneyer/moneyerref03.Number -/
def ref03_Number_h0 : Nat → Int → (Vector Bool 256) → (Vector UInt64 4) → (Vector UInt64 4) → Option (Vector UInt64 4)
  | 0, _, _, _, _ => none
  | k + 1, i, l, t2, a => bif decide ((0 : Int) ≤ i) then (if ((0 : Int) ≤ (w64 (Int.tdiv i (64 : Int)))) ∧ ((w64 (Int.tdiv i (64 : Int))) < (4 : Int)) then
        if ((0 : Int) ≤ i) ∧ (i < (256 : Int)) then
          bif List.getD (Vector.toList l) (Int.toNat i) false then (ref03_Number_h0 k (w64 (i - (1 : Int))) l t2 (Vector.setIfInBounds (Vector.setIfInBounds a (Int.toNat (w64 (Int.tdiv i (64 : Int)))) ((2 : UInt64) * (List.getD (Vector.toList a) (Int.toNat (w64 (Int.tdiv i (64 : Int)))) (0 : UInt64)))) (Int.toNat (w64 (Int.tdiv i (64 : Int)))) ((List.getD (Vector.toList (Vector.setIfInBounds a (Int.toNat (w64 (Int.tdiv i (64 : Int)))) ((2 : UInt64) * (List.getD (Vector.toList a) (Int.toNat (w64 (Int.tdiv i (64 : Int)))) (0 : UInt64))))) (Int.toNat (w64 (Int.tdiv i (64 : Int)))) (0 : UInt64)) + (1 : UInt64))))
            else (ref03_Number_h0 k (w64 (i - (1 : Int))) l t2 (Vector.setIfInBounds a (Int.toNat (w64 (Int.tdiv i (64 : Int)))) ((2 : UInt64) * (List.getD (Vector.toList a) (Int.toNat (w64 (Int.tdiv i (64 : Int)))) (0 : UInt64)))))
        else none
      else none)
      else (some a)
theorem ref03_Number_h0_q (k : Nat) (i : Int) (l : Vector Bool 256) (t2 : Vector UInt64 4) (a : Vector UInt64 4) : ref03_Number_h0 (k + 1) i l t2 a =
  (bif decide ((0 : Int) ≤ i) then (if ((0 : Int) ≤ (w64 (Int.tdiv i (64 : Int)))) ∧ ((w64 (Int.tdiv i (64 : Int))) < (4 : Int)) then
        if ((0 : Int) ≤ i) ∧ (i < (256 : Int)) then
          bif List.getD (Vector.toList l) (Int.toNat i) false then (ref03_Number_h0 k (w64 (i - (1 : Int))) l t2 (Vector.setIfInBounds (Vector.setIfInBounds a (Int.toNat (w64 (Int.tdiv i (64 : Int)))) ((2 : UInt64) * (List.getD (Vector.toList a) (Int.toNat (w64 (Int.tdiv i (64 : Int)))) (0 : UInt64)))) (Int.toNat (w64 (Int.tdiv i (64 : Int)))) ((List.getD (Vector.toList (Vector.setIfInBounds a (Int.toNat (w64 (Int.tdiv i (64 : Int)))) ((2 : UInt64) * (List.getD (Vector.toList a) (Int.toNat (w64 (Int.tdiv i (64 : Int)))) (0 : UInt64))))) (Int.toNat (w64 (Int.tdiv i (64 : Int)))) (0 : UInt64)) + (1 : UInt64))))
            else (ref03_Number_h0 k (w64 (i - (1 : Int))) l t2 (Vector.setIfInBounds a (Int.toNat (w64 (Int.tdiv i (64 : Int)))) ((2 : UInt64) * (List.getD (Vector.toList a) (Int.toNat (w64 (Int.tdiv i (64 : Int)))) (0 : UInt64)))))
        else none
      else none)
      else (some a)) := by kernel_rfl
/-- moneyer/moneyerref03.Number -/
def ref03_Number (k : Nat) (l : Vector Bool 256) : Option (Vector UInt64 4) :=
  ref03_Number_h0 k (255 : Int) l (Vector.replicate (4 : Nat) (0 : UInt64)) (Vector.replicate (4 : Nat) (0 : UInt64))
theorem ref03_Number_q (k : Nat) (l : Vector Bool 256) : ref03_Number k l = (ref03_Number_h0 k (255 : Int) l (Vector.replicate (4 : Nat) (0 : UInt64)) (Vector.replicate (4 : Nat) (0 : UInt64))) := by kernel_rfl
theorem ref03_Number_spec (l : Vector Bool 256) : ∃ k, ref03_Number k l = some (uW (bV l)) := by
  show Ev (fun k => ref03_Number k l) _
  refine Ev.same (fun k => ref03_Number_q k l) ?_
  let Inv : Nat → Vector UInt64 4 → Prop := fun i a => ∀ q, q < 4 → gW a q = if i ≤ 64 * q then bV l / 2 ^ (64 * q) % 18446744073709551616 else if i < 64 * (q + 1) then bV l / 2 ^ i % 2 ^ (64 * (q + 1) - i) else 0
  have gen : ∀ i a, i ≤ 256 → Inv i a → Ev (fun f => ref03_Number_h0 f ((i : Int) - 1) l (Vector.replicate 4 0) a) (uW (bV l)) := by
    intro i
    induction i with
    | zero =>
      intro a _ h
      refine Ev.done fun f => ?_
      rw [ref03_Number_h0_q, bif_neg (by omega)]
      refine congrArg some (w_ext fun q hq => ?_)
      rw [h q hq, if_pos (by omega), uW_get _ _ hq, Nat.pow_mul]
    | succ i ih =>
      intro a hi h
      have ed : Int.tdiv (i : Int) 64 = ((i / 64 : Nat) : Int) := rfl
      have hq0 : i / 64 < 4 := by omega
      have hold := h (i / 64) hq0
      have hbit : (List.getD (Vector.toList l) i false).toNat = bV l / 2 ^ i % 2 := by rw [← bV_bit, bit_nat]
      have hnew : 2 * gW a (i / 64) + (List.getD (Vector.toList l) i false).toNat = if i ≤ 64 * (i / 64) then bV l / 2 ^ (64 * (i / 64)) % 18446744073709551616 else bV l / 2 ^ i % 2 ^ (64 * (i / 64 + 1) - i) := by
        have e : (if i ≤ 64 * (i / 64) then bV l / 2 ^ (64 * (i / 64)) % 18446744073709551616 else bV l / 2 ^ i % 2 ^ (64 * (i / 64 + 1) - i)) = bV l / 2 ^ i % 2 ^ (64 * (i / 64 + 1) - i) := by
          split
          · have : 64 * (i / 64) = i := by omega
            rw [this, show 64 * (i / 64 + 1) - i = 64 by omega]
          · rfl
        rw [e, hold, hbit, if_neg (by omega)]
        by_cases hb : i + 1 < 64 * (i / 64 + 1)
        · rw [if_pos hb, show 64 * (i / 64 + 1) - i = (64 * (i / 64 + 1) - (i + 1)) + 1 by omega, Nat.pow_succ (m := 64 * (i / 64 + 1) - (i + 1)), Nat.mul_comm (2 ^ (64 * (i / 64 + 1) - (i + 1))) 2, Nat.mod_mul, Nat.pow_succ, ← Nat.div_div_eq_div_mul]
          omega
        · rw [if_neg hb, show 64 * (i / 64 + 1) - i = 1 by omega]
          omega
      have hlt : 2 * gW a (i / 64) + (List.getD (Vector.toList l) i false).toNat < 18446744073709551616 := by
        rw [hnew]
        split
        · exact Nat.mod_lt _ (by omega)
        · refine Nat.lt_of_lt_of_le (Nat.mod_lt _ (Nat.two_pow_pos _)) ?_
          have : 2 ^ (64 * (i / 64 + 1) - i) ≤ 2 ^ 64 := Nat.pow_le_pow_right (by decide) (by omega)
          exact this
      have fin : ∀ x : UInt64, x.toNat = 2 * gW a (i / 64) + (List.getD (Vector.toList l) i false).toNat → Inv i (Vector.setIfInBounds a (i / 64) x) := by
        intro x hx q hq
        unfold gW
        rw [vget_set _ _ _ _ _ hq0]
        by_cases e : i / 64 = q
        · subst e
          rw [if_pos rfl, hx, hnew]
          split
          · rfl
          · rw [if_pos (by omega)]
        · rw [if_neg e]
          have := h q hq
          unfold gW at this
          rw [this]
          by_cases c1 : i + 1 ≤ 64 * q
          · rw [if_pos c1, if_pos (by omega)]
          · rw [if_neg c1, if_neg (by omega), if_neg (by omega), if_neg (by omega)]
      have e1 : ((i + 1 : Nat) : Int) - 1 = (i : Int) := by omega
      have hg : gW a (i / 64) = (List.getD (Vector.toList a) (i / 64) 0).toNat := rfl
      have e2 : ((2 : UInt64) * List.getD (Vector.toList a) (i / 64) 0).toNat = 2 * gW a (i / 64) := by
        rw [UInt64.toNat_mul, ← hg, show (2 : UInt64).toNat = 2 from rfl]
        omega
      cases hb : List.getD (Vector.toList l) i false with
      | true =>
        rw [hb] at fin hlt
        simp only [Bool.toNat_true] at fin hlt
        refine Ev.step (fun f => ?_) (ih (Vector.setIfInBounds a (i / 64) ((2 : UInt64) * List.getD (Vector.toList a) (i / 64) 0 + 1)) (by omega) (fin _ (by rw [UInt64.toNat_add, e2, show (1 : UInt64).toNat = 1 from rfl]; omega)))
        rw [e1, ref03_Number_h0_q, bif_pos (by omega), ed, w64_id (by omega) (by omega), if_pos (by omega), if_pos (by omega), Int.toNat_natCast, Int.toNat_natCast, hb, cond_true, w64_id (by omega) (by omega)]
        rw [vget_set _ _ _ _ _ hq0, if_pos rfl]
        congr 1
        refine vext 0 fun j hj => ?_
        rw [vget_set _ _ _ _ _ hq0, vget_set _ _ _ _ _ hq0, vget_set _ _ _ _ _ hq0]
        split <;> rfl
      | false =>
        rw [hb] at fin
        simp only [Bool.toNat_false, Nat.add_zero] at fin
        refine Ev.step (fun f => ?_) (ih (Vector.setIfInBounds a (i / 64) ((2 : UInt64) * List.getD (Vector.toList a) (i / 64) 0)) (by omega) (fin _ e2))
        rw [e1, ref03_Number_h0_q, bif_pos (by omega), ed, w64_id (by omega) (by omega), if_pos (by omega), if_pos (by omega), Int.toNat_natCast, Int.toNat_natCast, hb, cond_false, w64_id (by omega) (by omega)]
  refine gen 256 _ (Nat.le_refl _) fun q hq => ?_
  rw [if_neg (by omega), if_neg (by omega)]
  unfold gW
  rw [vget_rep]
  rfl

end
end Go.Proofs.Ytepcjobghbanmaa.M

namespace Go.Proofs.Ytepcjobghbanmaa.M
open Go
noncomputable section
/-- the loop 6 of moneyer/moneyerref03.Mul -/
def ref03_Mul_h6 : Nat → UInt64 → Int → (Vector UInt64 4) → (Vector Bool 320) → (Vector Bool 256) → Option (Vector UInt64 4 × UInt64)
  | 0, _, _, _, _, _ => none
  | k + 1, high, i, t4, all, low => bif decide ((256 : Int) ≤ i) then (if ((0 : Int) ≤ i) ∧ (i < (320 : Int)) then
        bif List.getD (Vector.toList all) (Int.toNat i) false then (ref03_Mul_h6 k (((2 : UInt64) * high) + (1 : UInt64)) (w64 (i - (1 : Int))) t4 all low)
          else (ref03_Mul_h6 k ((2 : UInt64) * high) (w64 (i - (1 : Int))) t4 all low)
      else none)
      else (some ((uW (bV low)), high))
theorem ref03_Mul_h6_q (k : Nat) (high : UInt64) (i : Int) (t4 : Vector UInt64 4) (all : Vector Bool 320) (low : Vector Bool 256) : ref03_Mul_h6 (k + 1) high i t4 all low =
  (bif decide ((256 : Int) ≤ i) then (if ((0 : Int) ≤ i) ∧ (i < (320 : Int)) then
        bif List.getD (Vector.toList all) (Int.toNat i) false then (ref03_Mul_h6 k (((2 : UInt64) * high) + (1 : UInt64)) (w64 (i - (1 : Int))) t4 all low)
          else (ref03_Mul_h6 k ((2 : UInt64) * high) (w64 (i - (1 : Int))) t4 all low)
      else none)
      else (some ((uW (bV low)), high))) := by kernel_rfl
/-- the loop 4 of moneyer/moneyerref03.Mul -/
def ref03_Mul_h4 : Nat → Int → (Vector UInt64 4) → (Vector Bool 320) → (Vector Bool 256) → Option (Vector UInt64 4 × UInt64)
  | 0, _, _, _, _ => none
  | k + 1, i, t4, all, low => bif decide (i < (256 : Int)) then (if ((0 : Int) ≤ i) ∧ (i < (320 : Int)) then
        if ((0 : Int) ≤ i) ∧ (i < (256 : Int)) then
          ref03_Mul_h4 k (w64 (i + (1 : Int))) t4 all (Vector.setIfInBounds low (Int.toNat i) (List.getD (Vector.toList all) (Int.toNat i) false))
        else none
      else none)
      else (ref03_Mul_h6 k (0 : UInt64) (319 : Int) t4 all low)
theorem ref03_Mul_h4_q (k : Nat) (i : Int) (t4 : Vector UInt64 4) (all : Vector Bool 320) (low : Vector Bool 256) : ref03_Mul_h4 (k + 1) i t4 all low =
  (bif decide (i < (256 : Int)) then (if ((0 : Int) ≤ i) ∧ (i < (320 : Int)) then
        if ((0 : Int) ≤ i) ∧ (i < (256 : Int)) then
          ref03_Mul_h4 k (w64 (i + (1 : Int))) t4 all (Vector.setIfInBounds low (Int.toNat i) (List.getD (Vector.toList all) (Int.toNat i) false))
        else none
      else none)
      else (ref03_Mul_h6 k (0 : UInt64) (319 : Int) t4 all low)) := by kernel_rfl
mutual
/-- the loop 0 of moneyer/moneyerref03.Mul -/
def ref03_Mul_h0 : Nat → UInt64 → Int → (Vector UInt64 4) → (Vector Bool 256) → (Vector Bool 320) → Option (Vector UInt64 4 × UInt64)
  | 0, _, _, _, _, _ => none
  | k + 1, n, k_, t4, x_, all => bif decide (k_ < (64 : Int)) then (bif decide ((n % (2 : UInt64)) = (0 : UInt64)) then (ref03_Mul_h0 k (n / (2 : UInt64)) (w64 (k_ + (1 : Int))) t4 x_ all)
        else (ref03_Mul_h2 k (n / (2 : UInt64)) k_ (0 : Int) k_ t4 x_ all))
      else (ref03_Mul_h4 k (0 : Int) t4 all (Vector.replicate (256 : Nat) false))
/-- the loop 2 of moneyer/moneyerref03.Mul -/
def ref03_Mul_h2 : Nat → UInt64 → Int → Int → Int → (Vector UInt64 4) → (Vector Bool 256) → (Vector Bool 320) → Option (Vector UInt64 4 × UInt64)
  | 0, _, _, _, _, _, _, _ => none
  | k + 1, n, k_, carry, i, t4, x_, all => bif decide (i < (320 : Int)) then (if ((0 : Int) ≤ i) ∧ (i < (320 : Int)) then
        bif List.getD (Vector.toList all) (Int.toNat i) false then (bif eqb (decide ((w64 (i - k_)) < (256 : Int))) true then (if ((0 : Int) ≤ (w64 (i - k_))) ∧ ((w64 (i - k_)) < (256 : Int)) then
              bif bif true then (List.getD (Vector.toList x_) (Int.toNat (w64 (i - k_))) false) else false then (ref03_Mul_h2 k n k_ (w64 (Int.tdiv (w64 ((w64 (carry + (1 : Int))) + (1 : Int))) (2 : Int))) (w64 (i + (1 : Int))) t4 x_ (Vector.setIfInBounds all (Int.toNat i) (decide ((Int.tmod (w64 ((w64 (carry + (1 : Int))) + (1 : Int))) (2 : Int)) = (1 : Int)))))
                else (ref03_Mul_h2 k n k_ (w64 (Int.tdiv (w64 (carry + (1 : Int))) (2 : Int))) (w64 (i + (1 : Int))) t4 x_ (Vector.setIfInBounds all (Int.toNat i) (decide ((Int.tmod (w64 (carry + (1 : Int))) (2 : Int)) = (1 : Int)))))
            else none)
            else (ref03_Mul_h2 k n k_ (w64 (Int.tdiv (w64 (carry + (1 : Int))) (2 : Int))) (w64 (i + (1 : Int))) t4 x_ (Vector.setIfInBounds all (Int.toNat i) (decide ((Int.tmod (w64 (carry + (1 : Int))) (2 : Int)) = (1 : Int))))))
          else (bif eqb (decide ((w64 (i - k_)) < (256 : Int))) true then (if ((0 : Int) ≤ (w64 (i - k_))) ∧ ((w64 (i - k_)) < (256 : Int)) then
              bif bif true then (List.getD (Vector.toList x_) (Int.toNat (w64 (i - k_))) false) else false then (ref03_Mul_h2 k n k_ (w64 (Int.tdiv (w64 (carry + (1 : Int))) (2 : Int))) (w64 (i + (1 : Int))) t4 x_ (Vector.setIfInBounds all (Int.toNat i) (decide ((Int.tmod (w64 (carry + (1 : Int))) (2 : Int)) = (1 : Int)))))
                else (ref03_Mul_h2 k n k_ (w64 (Int.tdiv carry (2 : Int))) (w64 (i + (1 : Int))) t4 x_ (Vector.setIfInBounds all (Int.toNat i) (decide ((Int.tmod carry (2 : Int)) = (1 : Int)))))
            else none)
            else (ref03_Mul_h2 k n k_ (w64 (Int.tdiv carry (2 : Int))) (w64 (i + (1 : Int))) t4 x_ (Vector.setIfInBounds all (Int.toNat i) (decide ((Int.tmod carry (2 : Int)) = (1 : Int))))))
      else none)
      else (ref03_Mul_h0 k n (w64 (k_ + (1 : Int))) t4 x_ all)
end
theorem ref03_Mul_h0_q (k : Nat) (n : UInt64) (k_ : Int) (t4 : Vector UInt64 4) (x_ : Vector Bool 256) (all : Vector Bool 320) : ref03_Mul_h0 (k + 1) n k_ t4 x_ all =
  (bif decide (k_ < (64 : Int)) then (bif decide ((n % (2 : UInt64)) = (0 : UInt64)) then (ref03_Mul_h0 k (n / (2 : UInt64)) (w64 (k_ + (1 : Int))) t4 x_ all)
        else (ref03_Mul_h2 k (n / (2 : UInt64)) k_ (0 : Int) k_ t4 x_ all))
      else (ref03_Mul_h4 k (0 : Int) t4 all (Vector.replicate (256 : Nat) false))) := by kernel_rfl
theorem ref03_Mul_h2_q (k : Nat) (n : UInt64) (k_ : Int) (carry : Int) (i : Int) (t4 : Vector UInt64 4) (x_ : Vector Bool 256) (all : Vector Bool 320) : ref03_Mul_h2 (k + 1) n k_ carry i t4 x_ all =
  (bif decide (i < (320 : Int)) then (if ((0 : Int) ≤ i) ∧ (i < (320 : Int)) then
        bif List.getD (Vector.toList all) (Int.toNat i) false then (bif eqb (decide ((w64 (i - k_)) < (256 : Int))) true then (if ((0 : Int) ≤ (w64 (i - k_))) ∧ ((w64 (i - k_)) < (256 : Int)) then
              bif bif true then (List.getD (Vector.toList x_) (Int.toNat (w64 (i - k_))) false) else false then (ref03_Mul_h2 k n k_ (w64 (Int.tdiv (w64 ((w64 (carry + (1 : Int))) + (1 : Int))) (2 : Int))) (w64 (i + (1 : Int))) t4 x_ (Vector.setIfInBounds all (Int.toNat i) (decide ((Int.tmod (w64 ((w64 (carry + (1 : Int))) + (1 : Int))) (2 : Int)) = (1 : Int)))))
                else (ref03_Mul_h2 k n k_ (w64 (Int.tdiv (w64 (carry + (1 : Int))) (2 : Int))) (w64 (i + (1 : Int))) t4 x_ (Vector.setIfInBounds all (Int.toNat i) (decide ((Int.tmod (w64 (carry + (1 : Int))) (2 : Int)) = (1 : Int)))))
            else none)
            else (ref03_Mul_h2 k n k_ (w64 (Int.tdiv (w64 (carry + (1 : Int))) (2 : Int))) (w64 (i + (1 : Int))) t4 x_ (Vector.setIfInBounds all (Int.toNat i) (decide ((Int.tmod (w64 (carry + (1 : Int))) (2 : Int)) = (1 : Int))))))
          else (bif eqb (decide ((w64 (i - k_)) < (256 : Int))) true then (if ((0 : Int) ≤ (w64 (i - k_))) ∧ ((w64 (i - k_)) < (256 : Int)) then
              bif bif true then (List.getD (Vector.toList x_) (Int.toNat (w64 (i - k_))) false) else false then (ref03_Mul_h2 k n k_ (w64 (Int.tdiv (w64 (carry + (1 : Int))) (2 : Int))) (w64 (i + (1 : Int))) t4 x_ (Vector.setIfInBounds all (Int.toNat i) (decide ((Int.tmod (w64 (carry + (1 : Int))) (2 : Int)) = (1 : Int)))))
                else (ref03_Mul_h2 k n k_ (w64 (Int.tdiv carry (2 : Int))) (w64 (i + (1 : Int))) t4 x_ (Vector.setIfInBounds all (Int.toNat i) (decide ((Int.tmod carry (2 : Int)) = (1 : Int)))))
            else none)
            else (ref03_Mul_h2 k n k_ (w64 (Int.tdiv carry (2 : Int))) (w64 (i + (1 : Int))) t4 x_ (Vector.setIfInBounds all (Int.toNat i) (decide ((Int.tmod carry (2 : Int)) = (1 : Int))))))
      else none)
      else (ref03_Mul_h0 k n (w64 (k_ + (1 : Int))) t4 x_ all)) := by kernel_rfl
/-- moneyer/moneyerref03.Mul -/
def ref03_Mul (k : Nat) (a : Vector UInt64 4) (n : UInt64) : Option (Vector UInt64 4 × UInt64) :=
  ref03_Mul_h0 k n (0 : Int) (Vector.replicate (4 : Nat) (0 : UInt64)) (bitsV (uV a)) (Vector.replicate (320 : Nat) false)
theorem ref03_Mul_q (k : Nat) (a : Vector UInt64 4) (n : UInt64) : ref03_Mul k a n = (ref03_Mul_h0 k n (0 : Int) (Vector.replicate (4 : Nat) (0 : UInt64)) (bitsV (uV a)) (Vector.replicate (320 : Nat) false)) := by kernel_rfl
theorem ref03_Mul_s (n : UInt64) (K i : Nat) (hK : K ≤ i) (hi : i < 320) (c : Bool) (A : Nat) (all : Vector Bool 320) (t4 : Vector UInt64 4) (hA : A < 2 ^ 256) (f : Nat) :
    ref03_Mul_h2 (f + 1) n (K : Int) ((c.toNat : Nat) : Int) (i : Int) t4 (bitsV A) all =
      ref03_Mul_h2 f n (K : Int) (((decide (2 ≤ c.toNat + (List.getD (Vector.toList all) i false).toNat + ((A * 2 ^ K).testBit i).toNat)).toNat : Nat) : Int) ((i : Int) + 1) t4 (bitsV A)
        (Vector.setIfInBounds all i (decide ((c.toNat + (List.getD (Vector.toList all) i false).toNat + ((A * 2 ^ K).testBit i).toNat) % 2 = 1))) := by
  have hw : w64 ((i : Int) - (K : Int)) = ((i - K : Nat) : Int) := by rw [w64_id (by omega) (by omega)]; omega
  rw [ref03_Mul_h2_q, bif_pos (by omega), if_pos (by omega), Int.toNat_natCast, hw, w64_id (x := (i : Int) + 1) (by omega) (by omega)]
  rw [Nat.testBit_mul_two_pow, decide_eq_true hK, Bool.true_and]
  by_cases h : i - K < 256
  · rw [decide_eq_true (p := ((i - K : Nat) : Int) < 256) (by omega)]
    simp only [eqb, cond_true]
    rw [if_pos (by omega), if_pos (by omega), Int.toNat_natCast, bitsV_get _ _ h]
    cases List.getD (Vector.toList all) i false <;> cases A.testBit (i - K) <;> cases c <;> rfl
  · rw [decide_eq_false (p := ((i - K : Nat) : Int) < 256) (by omega)]
    simp only [eqb, cond_false]
    have : A.testBit (i - K) = false := Nat.testBit_lt_two_pow (Nat.lt_of_lt_of_le hA (Nat.pow_le_pow_right (by decide) (by omega)))
    rw [this]
    cases List.getD (Vector.toList all) i false <;> cases c <;> rfl
theorem ref03_Mul_l2 (n : UInt64) (K : Nat) (hK : K < 64) (A V : Nat) (hA : A < 2 ^ 256) (all0 : Vector Bool 320) (h0 : ∀ j, j < 320 → List.getD (Vector.toList all0) j false = V.testBit j) (R : Vector UInt64 4 × UInt64)
    (fin : ∀ all : Vector Bool 320, (∀ j, j < 320 → List.getD (Vector.toList all) j false = (V + A * 2 ^ K).testBit j) → Ev (fun k => ref03_Mul_h0 k n ((K : Int) + 1) (Vector.replicate 4 0) (bitsV A) all) R) :
    Ev (fun k => ref03_Mul_h2 k n (K : Int) 0 (K : Int) (Vector.replicate 4 0) (bitsV A) all0) R := by
  refine Ev.inv (H := fun k i (s : Bool × Vector Bool 320) => ref03_Mul_h2 k n (K : Int) ((s.1.toNat : Nat) : Int) i (Vector.replicate 4 0) (bitsV A) s.2) (n := 320)
    (fun i s => K ≤ i ∧ s.1 = decide (2 ^ i ≤ V % 2 ^ i + A * 2 ^ K % 2 ^ i + 0) ∧ ∀ j, j < 320 → List.getD (Vector.toList s.2) j false = if j < i then (V + A * 2 ^ K).testBit j else V.testBit j) ?_ ?_ (320 - K) K (false, all0) (by omega) ?_
  · rintro i ⟨c, all⟩ hi ⟨h1, h2, h3⟩ next
    simp only at h2 h3 next
    have ss := sum_step (X := V) (Y := A * 2 ^ K) (C := 0) (i := i) (by omega) c h2
    rw [Nat.add_zero] at ss
    have hb : List.getD (Vector.toList all) i false = V.testBit i := by rw [h3 i hi, if_neg (by omega)]
    refine Ev.step (fun k => ?_) (next (decide (2 ≤ c.toNat + (V.testBit i).toNat + ((A * 2 ^ K).testBit i).toNat), Vector.setIfInBounds all i (decide ((c.toNat + (V.testBit i).toNat + ((A * 2 ^ K).testBit i).toNat) % 2 = 1))) ⟨by omega, ?_, fun j hj => ?_⟩)
    · show ref03_Mul_h2 (k + 1) n (K : Int) ((c.toNat : Nat) : Int) (i : Int) _ _ all = _
      rw [ref03_Mul_s n K i h1 hi c A all _ hA, hb]
    · exact ss.2.symm
    · show List.getD (Vector.toList (Vector.setIfInBounds all i _)) j false = _
      rw [vget_set _ _ _ _ _ hi]
      by_cases e : i = j
      · subst e
        rw [if_pos rfl, if_pos (by omega), ss.1]
      · rw [if_neg e, h3 j hj]
        by_cases d : j < i
        · rw [if_pos d, if_pos (by omega)]
        · rw [if_neg d, if_neg (by omega)]
  · rintro ⟨c, all⟩ ⟨h1, h2, h3⟩
    simp only at h2 h3
    refine Ev.step (fun k => ?_) (fin all fun j hj => by rw [h3 j hj, if_pos hj])
    show ref03_Mul_h2 (k + 1) n (K : Int) ((c.toNat : Nat) : Int) _ _ _ all = _
    rw [ref03_Mul_h2_q, bif_neg (by omega), w64_id (by omega) (by omega)]
  · refine ⟨Nat.le_refl _, ?_, fun j hj => ?_⟩
    · show false = _
      rw [Nat.mul_mod_left]
      have := Nat.mod_lt V (Nat.two_pow_pos K)
      exact (decide_eq_false (by omega)).symm
    · show List.getD (Vector.toList all0) j false = _
      rw [h0 j hj]
      by_cases d : j < K
      · rw [if_pos d, Nat.add_comm, Nat.mul_comm A]
        have := Nat.testBit_two_pow_mul_add A (i := K) (b := V % 2 ^ K) (Nat.mod_lt _ (Nat.two_pow_pos K)) j
        have e : 2 ^ K * A + V = 2 ^ K * (A + V / 2 ^ K) + V % 2 ^ K := by
          have := Nat.div_add_mod V (2 ^ K)
          rw [Nat.mul_add]; omega
        rw [e, Nat.testBit_two_pow_mul_add _ (Nat.mod_lt _ (Nat.two_pow_pos K)), if_pos d, Nat.testBit_mod_two_pow, decide_eq_true d, Bool.true_and]
      · rw [if_neg d]
theorem ref03_Mul_l4 (P : Nat) (hP : P < 2 ^ 256 * 2 ^ 64) (all : Vector Bool 320) (h : ∀ j, j < 320 → List.getD (Vector.toList all) j false = P.testBit j) :
    Ev (fun k => ref03_Mul_h4 k 0 (Vector.replicate 4 0) all (Vector.replicate 256 false)) (uW P, UInt64.ofNat (P / 115792089237316195423570985008687907853269984665640564039457584007913129639936)) := by
  refine Ev.inv (H := fun k i low => ref03_Mul_h4 k i (Vector.replicate 4 0) all low) (n := 256)
    (fun i low => ∀ j, j < i → List.getD (Vector.toList low) j false = P.testBit j) ?_ ?_ 256 0 _ rfl (fun j hj => by omega)
  · intro i low hi hv next
    refine Ev.step (fun k => ?_) (next (Vector.setIfInBounds low i (P.testBit i)) fun j hj => ?_)
    · rw [ref03_Mul_h4_q, bif_pos (by omega), if_pos (by omega), if_pos (by omega), Int.toNat_natCast, h i (by omega), w64_id (by omega) (by omega)]
    · rw [vget_set _ _ _ _ _ hi]
      by_cases e : i = j
      · subst e; rw [if_pos rfl]
      · rw [if_neg e, hv j (by omega)]
  · intro low hv
    have elow : uW (bV low) = uW P := by
      refine u_bit_ext fun j hj => ?_
      rw [uW_bit, uW_bit, bV_bit, hv j hj]
    have := Ev.dwn (H := fun k i (high : UInt64) => ref03_Mul_h6 k high (i + 256) (Vector.replicate 4 0) all low) (n := 64) (r := (uW P, UInt64.ofNat (P / 115792089237316195423570985008687907853269984665640564039457584007913129639936)))
      (fun i high => high.toNat = P / (2 ^ 256 * 2 ^ i)) ?_ ?_ 64 0 (Nat.le_refl _) ?_
    · refine Ev.step (fun k => ?_) this
      show ref03_Mul_h4 (k + 1) _ _ _ _ = _
      rw [ref03_Mul_h4_q, bif_neg (by omega)]
      rfl
    · intro i high hi hh nx
      have hb := bit_split P (256 + i)
      rw [show 256 + i + 1 = 256 + (i + 1) by omega, Nat.pow_add, Nat.pow_add 2 256 (i + 1), ← hh] at hb
      have hlt : P / (2 ^ 256 * 2 ^ i) < 2 ^ 64 := by
        rw [Nat.div_lt_iff_lt_mul (Nat.mul_pos (Nat.two_pow_pos _) (Nat.two_pow_pos _))]
        have h3 : 2 ^ 256 ≤ 2 ^ 256 * 2 ^ i := Nat.le_mul_of_pos_right _ (Nat.two_pow_pos i)
        have h4 := Nat.mul_le_mul_left (2 ^ 64) h3
        rw [Nat.mul_comm] at hP
        exact Nat.lt_of_lt_of_le hP h4
      have e2 : ∀ b : Nat, b ≤ 1 → P / (2 ^ 256 * 2 ^ i) = 2 * high.toNat + b → (2 * high).toNat = 2 * high.toNat := by
        intro b _ e
        rw [UInt64.toNat_mul, show (2 : UInt64).toNat = 2 from rfl]
        omega
      have ha := h (256 + i) (by omega)
      cases hx : P.testBit (256 + i) with
      | true =>
        rw [hx] at hb ha
        rw [Bool.toNat_true] at hb
        refine Ev.step (fun k => ?_) (nx (2 * high + 1) ?_)
        · show ref03_Mul_h6 (k + 1) high ((i : Int) + 256) _ all low = ref03_Mul_h6 k _ ((i : Int) - 1 + 256) _ all low
          rw [ref03_Mul_h6_q, bif_pos (by omega), if_pos (by omega), show Int.toNat ((i : Int) + 256) = 256 + i by omega, ha, cond_true, w64_id (by omega) (by omega), show (i : Int) + 256 - 1 = (i : Int) - 1 + 256 by omega]
        · rw [UInt64.toNat_add, e2 1 (by omega) hb, show (1 : UInt64).toNat = 1 from rfl]
          omega
      | false =>
        rw [hx] at hb ha
        rw [Bool.toNat_false] at hb
        refine Ev.step (fun k => ?_) (nx (2 * high) ?_)
        · show ref03_Mul_h6 (k + 1) high ((i : Int) + 256) _ all low = ref03_Mul_h6 k _ ((i : Int) - 1 + 256) _ all low
          rw [ref03_Mul_h6_q, bif_pos (by omega), if_pos (by omega), show Int.toNat ((i : Int) + 256) = 256 + i by omega, ha, cond_false, w64_id (by omega) (by omega), show (i : Int) + 256 - 1 = (i : Int) - 1 + 256 by omega]
        · rw [e2 0 (by omega) hb]
          omega
    · intro high hh
      refine Ev.done fun k => ?_
      show ref03_Mul_h6 (k + 1) high _ _ all low = _
      rw [ref03_Mul_h6_q, bif_neg (by omega), elow]
      rw [Nat.pow_zero, Nat.mul_one, two256] at hh
      rw [← hh, UInt64.ofNat_toNat]
    · show (0 : UInt64).toNat = _
      rw [Nat.div_eq_of_lt hP]
      rfl
theorem ref03_Mul_spec (a : Vector UInt64 4) (n : UInt64) : ∃ k, ref03_Mul k a n = some (uW (uV a * n.toNat), mulC a n) := by
  show Ev (fun k => ref03_Mul k a n) _
  rw [mulC_eq]
  refine Ev.same (fun k => ref03_Mul_q k a n) ?_
  have hA : uV a < 2 ^ 256 := by rw [two256]; exact uV_lt a
  have hn : n.toNat < 2 ^ 64 := n.toNat_lt
  refine Ev.inv (H := fun k i (s : UInt64 × Vector Bool 320) => ref03_Mul_h0 k s.1 i (Vector.replicate 4 0) (bitsV (uV a)) s.2) (n := 64)
    (fun i s => s.1.toNat = n.toNat / 2 ^ i ∧ ∀ j, j < 320 → List.getD (Vector.toList s.2) j false = (uV a * (n.toNat % 2 ^ i)).testBit j) ?_ ?_ 64 0 (n, _) rfl ?_
  · rintro i ⟨m, all⟩ hi ⟨h1, h2⟩ next
    simp only at h1 h2 next
    have hb := bit_split n.toNat i
    have hm := mod_succ n.toNat i
    have hx := bit_nat n.toNat i
    have e1 : (m / 2).toNat = n.toNat / 2 ^ (i + 1) := by
      rw [UInt64.toNat_div, h1, Nat.pow_succ, ← Nat.div_div_eq_div_mul]
      rfl
    have e2 : (m % 2 = 0) ↔ n.toNat.testBit i = false := by
      rw [← UInt64.toNat_inj, UInt64.toNat_mod, h1, show (2 : UInt64).toNat = 2 from rfl, show (0 : UInt64).toNat = 0 from rfl, ← hx]
      cases n.toNat.testBit i <;> simp
    by_cases c : m % 2 = 0
    · have cb := e2.1 c
      refine Ev.step (fun k => ?_) (next (m / 2, all) ⟨e1, fun j hj => ?_⟩)
      · show ref03_Mul_h0 (k + 1) m _ _ _ all = _
        rw [ref03_Mul_h0_q, bif_pos (by omega), bif_pos c, w64_id (by omega) (by omega)]
      · show List.getD (Vector.toList all) j false = _
        rw [cb, Bool.toNat_false, Nat.mul_zero] at hm
        rw [h2 j hj, hm, Nat.add_zero]
    · have cb : n.toNat.testBit i = true := by
        cases h : n.toNat.testBit i
        · exact absurd (e2.2 h) c
        · rfl
      refine Ev.step (fun k => ?_) (ref03_Mul_l2 (m / 2) i hi (uV a) (uV a * (n.toNat % 2 ^ i)) hA all h2 _ fun all' h3 => next (m / 2, all') ⟨e1, fun j hj => ?_⟩)
      · show ref03_Mul_h0 (k + 1) m _ _ _ all = _
        rw [ref03_Mul_h0_q, bif_pos (by omega), bif_neg c]
      · show List.getD (Vector.toList all') j false = _
        rw [cb, Bool.toNat_true, Nat.mul_one] at hm
        rw [h3 j hj, hm, Nat.mul_add]
  · rintro ⟨m, all⟩ ⟨h1, h2⟩
    simp only at h1 h2
    rw [Nat.mod_eq_of_lt hn] at h2
    have hP : uV a * n.toNat < 2 ^ 256 * 2 ^ 64 := Nat.mul_lt_mul'' hA hn
    refine Ev.step (fun k => ?_) (ref03_Mul_l4 (uV a * n.toNat) hP all h2)
    show ref03_Mul_h0 (k + 1) m _ _ _ all = _
    rw [ref03_Mul_h0_q, bif_neg (by omega)]
  · refine ⟨?_, fun j hj => ?_⟩
    · show n.toNat = _
      rw [Nat.pow_zero, Nat.div_one]
    · show List.getD (Vector.toList (Vector.replicate 320 false)) j false = _
      rw [vget_rep, Nat.pow_zero, Nat.mod_one, Nat.mul_zero, Nat.zero_testBit]

end
end Go.Proofs.Ytepcjobghbanmaa.M

namespace Go.Proofs.Ytepcjobghbanmaa.M
open Go
noncomputable section
set_option maxRecDepth 100000
set_option maxHeartbeats 0
noncomputable def ref03_Bits_T : Tbl := []
noncomputable def ref03_Bits_C : CfgW := mkC Try.prog noG ref03_Bits_T 29 0 false
def ref03_Bits_lv : Nat → List Nat := fun i => bif Nat.beq i 2 then [1, 2, 3, 4, 5, 6] else bif Nat.beq i 0 then [1, 2, 3, 4] else []
noncomputable abbrev ref03_Bits_b : Code := Try.f54.body.getD .skip
noncomputable abbrev ref03_Bits_r : List ResultVar := Try.f54.results.toList
def ref03_Bits_hs : List Nat := []

def ref03_Bits_enc (r : Vector Bool 256) : CallOut := ⟨.pv (.arr .b 256 r), [], true, []⟩
def ref03_Bits_s0 (i : Int) (a : Vector UInt64 4) (t2 : Vector Bool 256) (l : Vector Bool 256) : St := ⟨[(1, .p 60000 []), (2, .p 60001 []), (3, .p 60002 []), (4, .pv (.sc .i i))], [(60000, .box (.pv (.arr .u64 4 a))), (60001, .box (.pv (.arr .b 256 t2))), (60002, .box (.pv (.arr .b 256 l)))]⟩
def ref03_Bits_s2 (i : Int) (n : UInt64) (k_ : Int) (a : Vector UInt64 4) (t2 : Vector Bool 256) (l : Vector Bool 256) : St := ⟨[(1, .p 60000 []), (2, .p 60001 []), (3, .p 60002 []), (4, .pv (.sc .i i)), (5, .pv (.sc .u64 n)), (6, .pv (.sc .i k_))], [(60000, .box (.pv (.arr .u64 4 a))), (60001, .box (.pv (.arr .b 256 t2))), (60002, .box (.pv (.arr .b 256 l)))]⟩
theorem ref03_Bits_g0 (i : Int) (a : Vector UInt64 4) (t2 : Vector Bool 256) (l : Vector Bool 256) (Q : CallOut → Prop) : headRound ref03_Bits_C ref03_Bits_lv [true, true, false, true, false] ref03_Bits_b (ref03_Bits_s0 i a t2 l) (fnK ref03_Bits_C ref03_Bits_r ref03_Bits_hs Q) =
    (condP (decide (i < (256 : Int))) (((64 : Int) ≠ (0 : Int)) ∧ ((((0 : Int) ≤ (w64 (Int.tdiv i (64 : Int)))) ∧ ((w64 (Int.tdiv i (64 : Int))) < (4 : Int))) ∧ (headP ref03_Bits_C ref03_Bits_lv [true, true, false, true, false, false, true, false, false, true, false, true, false] ref03_Bits_b (ref03_Bits_s2 i (List.getD (Vector.toList a) (Int.toNat (w64 (Int.tdiv i (64 : Int)))) (0 : UInt64)) (0 : Int) a t2 l) (fnK ref03_Bits_C ref03_Bits_r ref03_Bits_hs Q)))) (Q (ref03_Bits_enc l))) := by kernel_rfl
theorem ref03_Bits_g2 (i : Int) (n : UInt64) (k_ : Int) (a : Vector UInt64 4) (t2 : Vector Bool 256) (l : Vector Bool 256) (Q : CallOut → Prop) : headRound ref03_Bits_C ref03_Bits_lv [true, true, false, true, false, false, true, false, false, true, false, true, false] ref03_Bits_b (ref03_Bits_s2 i n k_ a t2 l) (fnK ref03_Bits_C ref03_Bits_r ref03_Bits_hs Q) =
    (((64 : Int) ≠ (0 : Int)) ∧ (condP (decide (k_ < (Int.tmod i (64 : Int)))) (((2 : UInt64) ≠ (0 : UInt64)) ∧ (headP ref03_Bits_C ref03_Bits_lv [true, true, false, true, false, false, true, false, false, true, false, true, false] ref03_Bits_b (ref03_Bits_s2 i (n / (2 : UInt64)) (w64 (k_ + (1 : Int))) a t2 l) (fnK ref03_Bits_C ref03_Bits_r ref03_Bits_hs Q))) (((2 : UInt64) ≠ (0 : UInt64)) ∧ ((((0 : Int) ≤ i) ∧ (i < (256 : Int))) ∧ (headP ref03_Bits_C ref03_Bits_lv [true, true, false, true, false] ref03_Bits_b (ref03_Bits_s0 (w64 (i + (1 : Int))) a t2 (Vector.setIfInBounds l (Int.toNat i) (decide ((n % (2 : UInt64)) = (1 : UInt64))))) (fnK ref03_Bits_C ref03_Bits_r ref03_Bits_hs Q)))))) := by kernel_rfl
theorem ref03_Bits_k0 {r : Vector Bool 256} {Q : CallOut → Prop} (hQ : Q (ref03_Bits_enc r)) : ∀ k : Nat, (∀ (i : Int) (a : Vector UInt64 4) (t2 : Vector Bool 256) (l : Vector Bool 256), ref03_Bits_h0 k i a t2 l = some r → headP ref03_Bits_C ref03_Bits_lv [true, true, false, true, false] ref03_Bits_b (ref03_Bits_s0 i a t2 l) (fnK ref03_Bits_C ref03_Bits_r ref03_Bits_hs Q)) ∧ (∀ (i : Int) (n : UInt64) (k_ : Int) (a : Vector UInt64 4) (t2 : Vector Bool 256) (l : Vector Bool 256), ref03_Bits_h2 k i n k_ a t2 l = some r → headP ref03_Bits_C ref03_Bits_lv [true, true, false, true, false, false, true, false, false, true, false, true, false] ref03_Bits_b (ref03_Bits_s2 i n k_ a t2 l) (fnK ref03_Bits_C ref03_Bits_r ref03_Bits_hs Q))
  | 0 => ⟨fun _ _ _ _ h => no_ok h, fun _ _ _ _ _ _ h => no_ok h⟩
  | k + 1 => ⟨fun i a t2 l h => headP_step (Eq.mpr (ref03_Bits_g0 i a t2 l Q) (have h := (ref03_Bits_h0_q k i a t2 l).symm.trans h; cond_ok h (fun h => ⟨by decide +kernel, ite_ok h fun hc0 h => (ref03_Bits_k0 hQ k).2 _ _ _ _ _ _ h⟩) (fun h => ret_ok (Q := Q) (e := ref03_Bits_enc) h hQ))),
    fun i n k_ a t2 l h => headP_step (Eq.mpr (ref03_Bits_g2 i n k_ a t2 l Q) (have h := (ref03_Bits_h2_q k i n k_ a t2 l).symm.trans h; ⟨by decide +kernel, cond_ok h (fun h => ⟨by decide +kernel, (ref03_Bits_k0 hQ k).2 _ _ _ _ _ _ h⟩) (fun h => ⟨by decide +kernel, ite_ok h fun hc0 h => (ref03_Bits_k0 hQ k).1 _ _ _ _ h⟩)⟩))⟩
theorem ref03_Bits_e (a : Vector UInt64 4) (Q : CallOut → Prop) : evalFnP ref03_Bits_C ref03_Bits_lv ref03_Bits_r ref03_Bits_hs ref03_Bits_b [.pv (.arr .u64 4 a)] [] Q =
    (headP ref03_Bits_C ref03_Bits_lv [true, true, false, true, false] ref03_Bits_b (ref03_Bits_s0 (0 : Int) a (Vector.replicate (256 : Nat) false) (Vector.replicate (256 : Nat) false)) (fnK ref03_Bits_C ref03_Bits_r ref03_Bits_hs Q)) := by kernel_rfl
theorem ref03_Bits_w {k : Nat} (a : Vector UInt64 4) {r} {Q : CallOut → Prop} (h : ref03_Bits k a = some r) (hQ : Q (ref03_Bits_enc r)) : evalFnP ref03_Bits_C ref03_Bits_lv ref03_Bits_r ref03_Bits_hs ref03_Bits_b [.pv (.arr .u64 4 a)] [] Q :=
  Eq.mpr (ref03_Bits_e a Q) (have h := (ref03_Bits_q k a).symm.trans h; (ref03_Bits_k0 hQ _).1 _ _ _ _ h)
def ref03_Bits_c : Ans
  | [.pv (.arr .u64 4 a)], [] => some (none, ref03_Bits_enc (bitsV (uV a)))
  | _, _ => none
theorem ref03_Bits_tok : TblOK Try.prog noG ref03_Bits_T := .nil
theorem ref03_Bits_ok : FnOK Try.prog noG 54 (unW ref03_Bits_c) := by
  refine FnOK.ofC (T := ref03_Bits_T) (nt := 29) (np := 0) (nf := false) (hs := ref03_Bits_hs) (fn := Try.f54) (body := ref03_Bits_b) ref03_Bits_tok (by kernel_rfl) (by kernel_rfl) (by kernel_rfl) (by kernel_rfl) (c := ref03_Bits_c) (lv := ref03_Bits_lv) ?_
  intro xs mem p out h hp
  unfold ref03_Bits_c at h
  split at h
  · cases h
    obtain ⟨k, hk⟩ := ref03_Bits_spec _
    exact ref03_Bits_w _ hk rfl
  · cases h
end
end Go.Proofs.Ytepcjobghbanmaa.M

namespace Go.Proofs.Ytepcjobghbanmaa.M
open Go
noncomputable section
set_option maxRecDepth 100000
set_option maxHeartbeats 0
noncomputable def ref03_Number_T : Tbl := []
noncomputable def ref03_Number_C : CfgW := mkC Try.prog noG ref03_Number_T 29 0 false
def ref03_Number_lv : Nat → List Nat := fun i => bif Nat.beq i 0 then [1, 2, 3, 4] else []
noncomputable abbrev ref03_Number_b : Code := Try.f55.body.getD .skip
noncomputable abbrev ref03_Number_r : List ResultVar := Try.f55.results.toList
def ref03_Number_hs : List Nat := []

def ref03_Number_enc (r : Vector UInt64 4) : CallOut := ⟨.pv (.arr .u64 4 r), [], true, []⟩
def ref03_Number_s0 (i : Int) (l : Vector Bool 256) (t2 : Vector UInt64 4) (a : Vector UInt64 4) : St := ⟨[(1, .p 60000 []), (2, .p 60001 []), (3, .p 60002 []), (4, .pv (.sc .i i))], [(60000, .box (.pv (.arr .b 256 l))), (60001, .box (.pv (.arr .u64 4 t2))), (60002, .box (.pv (.arr .u64 4 a)))]⟩
theorem ref03_Number_g0 (i : Int) (l : Vector Bool 256) (t2 : Vector UInt64 4) (a : Vector UInt64 4) (Q : CallOut → Prop) : headRound ref03_Number_C ref03_Number_lv [true, true, false, true, false] ref03_Number_b (ref03_Number_s0 i l t2 a) (fnK ref03_Number_C ref03_Number_r ref03_Number_hs Q) =
    (condP (decide ((0 : Int) ≤ i)) (((64 : Int) ≠ (0 : Int)) ∧ (((64 : Int) ≠ (0 : Int)) ∧ ((((0 : Int) ≤ (w64 (Int.tdiv i (64 : Int)))) ∧ ((w64 (Int.tdiv i (64 : Int))) < (4 : Int))) ∧ ((((0 : Int) ≤ (w64 (Int.tdiv i (64 : Int)))) ∧ ((w64 (Int.tdiv i (64 : Int))) < (4 : Int))) ∧ ((((0 : Int) ≤ i) ∧ (i < (256 : Int))) ∧ (condP (List.getD (Vector.toList l) (Int.toNat i) false) (((64 : Int) ≠ (0 : Int)) ∧ (((64 : Int) ≠ (0 : Int)) ∧ ((((0 : Int) ≤ (w64 (Int.tdiv i (64 : Int)))) ∧ ((w64 (Int.tdiv i (64 : Int))) < (4 : Int))) ∧ ((((0 : Int) ≤ (w64 (Int.tdiv i (64 : Int)))) ∧ ((w64 (Int.tdiv i (64 : Int))) < (4 : Int))) ∧ (headP ref03_Number_C ref03_Number_lv [true, true, false, true, false] ref03_Number_b (ref03_Number_s0 (w64 (i - (1 : Int))) l t2 (Vector.setIfInBounds (Vector.setIfInBounds a (Int.toNat (w64 (Int.tdiv i (64 : Int)))) ((2 : UInt64) * (List.getD (Vector.toList a) (Int.toNat (w64 (Int.tdiv i (64 : Int)))) (0 : UInt64)))) (Int.toNat (w64 (Int.tdiv i (64 : Int)))) ((List.getD (Vector.toList (Vector.setIfInBounds a (Int.toNat (w64 (Int.tdiv i (64 : Int)))) ((2 : UInt64) * (List.getD (Vector.toList a) (Int.toNat (w64 (Int.tdiv i (64 : Int)))) (0 : UInt64))))) (Int.toNat (w64 (Int.tdiv i (64 : Int)))) (0 : UInt64)) + (1 : UInt64)))) (fnK ref03_Number_C ref03_Number_r ref03_Number_hs Q)))))) (headP ref03_Number_C ref03_Number_lv [true, true, false, true, false] ref03_Number_b (ref03_Number_s0 (w64 (i - (1 : Int))) l t2 (Vector.setIfInBounds a (Int.toNat (w64 (Int.tdiv i (64 : Int)))) ((2 : UInt64) * (List.getD (Vector.toList a) (Int.toNat (w64 (Int.tdiv i (64 : Int)))) (0 : UInt64))))) (fnK ref03_Number_C ref03_Number_r ref03_Number_hs Q)))))))) (Q (ref03_Number_enc a))) := by kernel_rfl
theorem ref03_Number_k0 {r : Vector UInt64 4} {Q : CallOut → Prop} (hQ : Q (ref03_Number_enc r)) : ∀ k : Nat, (∀ (i : Int) (l : Vector Bool 256) (t2 : Vector UInt64 4) (a : Vector UInt64 4), ref03_Number_h0 k i l t2 a = some r → headP ref03_Number_C ref03_Number_lv [true, true, false, true, false] ref03_Number_b (ref03_Number_s0 i l t2 a) (fnK ref03_Number_C ref03_Number_r ref03_Number_hs Q))
  | 0 => fun _ _ _ _ h => no_ok h
  | k + 1 => fun i l t2 a h => headP_step (Eq.mpr (ref03_Number_g0 i l t2 a Q) (have h := (ref03_Number_h0_q k i l t2 a).symm.trans h; cond_ok h (fun h => ⟨by decide +kernel, ⟨by decide +kernel, ite_ok h fun hc0 h => ⟨hc0, ite_ok h fun hc1 h => cond_ok h (fun h => ⟨by decide +kernel, ⟨by decide +kernel, ⟨hc0, ⟨hc0, (ref03_Number_k0 hQ k) _ _ _ _ h⟩⟩⟩⟩) (fun h => (ref03_Number_k0 hQ k) _ _ _ _ h)⟩⟩⟩) (fun h => ret_ok (Q := Q) (e := ref03_Number_enc) h hQ)))
theorem ref03_Number_e (l : Vector Bool 256) (Q : CallOut → Prop) : evalFnP ref03_Number_C ref03_Number_lv ref03_Number_r ref03_Number_hs ref03_Number_b [.pv (.arr .b 256 l)] [] Q =
    (headP ref03_Number_C ref03_Number_lv [true, true, false, true, false] ref03_Number_b (ref03_Number_s0 (255 : Int) l (Vector.replicate (4 : Nat) (0 : UInt64)) (Vector.replicate (4 : Nat) (0 : UInt64))) (fnK ref03_Number_C ref03_Number_r ref03_Number_hs Q)) := by kernel_rfl
theorem ref03_Number_w {k : Nat} (l : Vector Bool 256) {r} {Q : CallOut → Prop} (h : ref03_Number k l = some r) (hQ : Q (ref03_Number_enc r)) : evalFnP ref03_Number_C ref03_Number_lv ref03_Number_r ref03_Number_hs ref03_Number_b [.pv (.arr .b 256 l)] [] Q :=
  Eq.mpr (ref03_Number_e l Q) (have h := (ref03_Number_q k l).symm.trans h; (ref03_Number_k0 hQ _) _ _ _ _ h)
def ref03_Number_c : Ans
  | [.pv (.arr .b 256 l)], [] => some (none, ref03_Number_enc (uW (bV l)))
  | _, _ => none
theorem ref03_Number_tok : TblOK Try.prog noG ref03_Number_T := .nil
theorem ref03_Number_ok : FnOK Try.prog noG 55 (unW ref03_Number_c) := by
  refine FnOK.ofC (T := ref03_Number_T) (nt := 29) (np := 0) (nf := false) (hs := ref03_Number_hs) (fn := Try.f55) (body := ref03_Number_b) ref03_Number_tok (by kernel_rfl) (by kernel_rfl) (by kernel_rfl) (by kernel_rfl) (c := ref03_Number_c) (lv := ref03_Number_lv) ?_
  intro xs mem p out h hp
  unfold ref03_Number_c at h
  split at h
  · cases h
    obtain ⟨k, hk⟩ := ref03_Number_spec _
    exact ref03_Number_w _ hk rfl
  · cases h
end
end Go.Proofs.Ytepcjobghbanmaa.M

namespace Go.Proofs.Ytepcjobghbanmaa.M
open Go
noncomputable section
set_option maxRecDepth 100000
set_option maxHeartbeats 0
noncomputable def ref03_Mul_T : Tbl := [(54, [], ref03_Bits_c), (55, [], ref03_Number_c)]
noncomputable def ref03_Mul_C : CfgW := mkC Try.prog noG ref03_Mul_T 83 0 false
def ref03_Mul_lv : Nat → List Nat := fun i => bif Nat.beq i 6 then [4, 7, 13, 15, 16] else bif Nat.beq i 4 then [4, 7, 13, 14] else bif Nat.beq i 2 then [1, 4, 6, 7, 8, 10, 11] else bif Nat.beq i 0 then [1, 4, 6, 7, 8] else []
noncomputable abbrev ref03_Mul_b : Code := Try.f39.body.getD .skip
noncomputable abbrev ref03_Mul_r : List ResultVar := Try.f39.results.toList
def ref03_Mul_hs : List Nat := []

def ref03_Mul_enc (r : Vector UInt64 4 × UInt64) : CallOut := ⟨.tup [.pv (.arr .u64 4 r.1), .pv (.sc .u64 r.2)], [], true, []⟩
def ref03_Mul_s0 (n : UInt64) (k_ : Int) (t4 : Vector UInt64 4) (x_ : Vector Bool 256) (all : Vector Bool 320) : St := ⟨[(1, .pv (.sc .u64 n)), (4, .p 60000 []), (6, .p 60001 []), (7, .p 60002 []), (8, .pv (.sc .i k_))], [(60000, .box (.pv (.arr .u64 4 t4))), (60001, .box (.pv (.arr .b 256 x_))), (60002, .box (.pv (.arr .b 320 all)))]⟩
def ref03_Mul_s2 (n : UInt64) (k_ : Int) (carry : Int) (i : Int) (t4 : Vector UInt64 4) (x_ : Vector Bool 256) (all : Vector Bool 320) : St := ⟨[(1, .pv (.sc .u64 n)), (4, .p 60000 []), (6, .p 60001 []), (7, .p 60002 []), (8, .pv (.sc .i k_)), (10, .pv (.sc .i carry)), (11, .pv (.sc .i i))], [(60000, .box (.pv (.arr .u64 4 t4))), (60001, .box (.pv (.arr .b 256 x_))), (60002, .box (.pv (.arr .b 320 all)))]⟩
def ref03_Mul_s4 (i : Int) (t4 : Vector UInt64 4) (all : Vector Bool 320) (low : Vector Bool 256) : St := ⟨[(4, .p 60000 []), (7, .p 60001 []), (13, .p 60002 []), (14, .pv (.sc .i i))], [(60000, .box (.pv (.arr .u64 4 t4))), (60001, .box (.pv (.arr .b 320 all))), (60002, .box (.pv (.arr .b 256 low)))]⟩
def ref03_Mul_s6 (high : UInt64) (i : Int) (t4 : Vector UInt64 4) (all : Vector Bool 320) (low : Vector Bool 256) : St := ⟨[(4, .p 60000 []), (7, .p 60001 []), (13, .p 60002 []), (15, .pv (.sc .u64 high)), (16, .pv (.sc .i i))], [(60000, .box (.pv (.arr .u64 4 t4))), (60001, .box (.pv (.arr .b 320 all))), (60002, .box (.pv (.arr .b 256 low)))]⟩
theorem ref03_Mul_g0 (n : UInt64) (k_ : Int) (t4 : Vector UInt64 4) (x_ : Vector Bool 256) (all : Vector Bool 320) (Q : CallOut → Prop) : headRound ref03_Mul_C ref03_Mul_lv [true, true, true, false, true, false] ref03_Mul_b (ref03_Mul_s0 n k_ t4 x_ all) (fnK ref03_Mul_C ref03_Mul_r ref03_Mul_hs Q) =
    (condP (decide (k_ < (64 : Int))) (((2 : UInt64) ≠ (0 : UInt64)) ∧ (((2 : UInt64) ≠ (0 : UInt64)) ∧ (condP (decide ((n % (2 : UInt64)) = (0 : UInt64))) (headP ref03_Mul_C ref03_Mul_lv [true, true, true, false, true, false] ref03_Mul_b (ref03_Mul_s0 (n / (2 : UInt64)) (w64 (k_ + (1 : Int))) t4 x_ all) (fnK ref03_Mul_C ref03_Mul_r ref03_Mul_hs Q)) (headP ref03_Mul_C ref03_Mul_lv [true, true, true, false, true, false, false, true, false, false, true, true, true, true, true, false] ref03_Mul_b (ref03_Mul_s2 (n / (2 : UInt64)) k_ (0 : Int) k_ t4 x_ all) (fnK ref03_Mul_C ref03_Mul_r ref03_Mul_hs Q))))) (headP ref03_Mul_C ref03_Mul_lv [true, true, true, true, true, false, true, false] ref03_Mul_b (ref03_Mul_s4 (0 : Int) t4 all (Vector.replicate (256 : Nat) false)) (fnK ref03_Mul_C ref03_Mul_r ref03_Mul_hs Q))) := by kernel_rfl
theorem ref03_Mul_g2 (n : UInt64) (k_ : Int) (carry : Int) (i : Int) (t4 : Vector UInt64 4) (x_ : Vector Bool 256) (all : Vector Bool 320) (Q : CallOut → Prop) : headRound ref03_Mul_C ref03_Mul_lv [true, true, true, false, true, false, false, true, false, false, true, true, true, true, true, false] ref03_Mul_b (ref03_Mul_s2 n k_ carry i t4 x_ all) (fnK ref03_Mul_C ref03_Mul_r ref03_Mul_hs Q) =
    (condP (decide (i < (320 : Int))) ((((0 : Int) ≤ i) ∧ (i < (320 : Int))) ∧ (condP (List.getD (Vector.toList all) (Int.toNat i) false) (condP (eqb (decide ((w64 (i - k_)) < (256 : Int))) true) ((((0 : Int) ≤ (w64 (i - k_))) ∧ ((w64 (i - k_)) < (256 : Int))) ∧ (condP (bif true then (List.getD (Vector.toList x_) (Int.toNat (w64 (i - k_))) false) else false) (((2 : Int) ≠ (0 : Int)) ∧ ((((0 : Int) ≤ i) ∧ (i < (320 : Int))) ∧ (((2 : Int) ≠ (0 : Int)) ∧ (headP ref03_Mul_C ref03_Mul_lv [true, true, true, false, true, false, false, true, false, false, true, true, true, true, true, false] ref03_Mul_b (ref03_Mul_s2 n k_ (w64 (Int.tdiv (w64 ((w64 (carry + (1 : Int))) + (1 : Int))) (2 : Int))) (w64 (i + (1 : Int))) t4 x_ (Vector.setIfInBounds all (Int.toNat i) (decide ((Int.tmod (w64 ((w64 (carry + (1 : Int))) + (1 : Int))) (2 : Int)) = (1 : Int))))) (fnK ref03_Mul_C ref03_Mul_r ref03_Mul_hs Q))))) (((2 : Int) ≠ (0 : Int)) ∧ ((((0 : Int) ≤ i) ∧ (i < (320 : Int))) ∧ (((2 : Int) ≠ (0 : Int)) ∧ (headP ref03_Mul_C ref03_Mul_lv [true, true, true, false, true, false, false, true, false, false, true, true, true, true, true, false] ref03_Mul_b (ref03_Mul_s2 n k_ (w64 (Int.tdiv (w64 (carry + (1 : Int))) (2 : Int))) (w64 (i + (1 : Int))) t4 x_ (Vector.setIfInBounds all (Int.toNat i) (decide ((Int.tmod (w64 (carry + (1 : Int))) (2 : Int)) = (1 : Int))))) (fnK ref03_Mul_C ref03_Mul_r ref03_Mul_hs Q))))))) (((2 : Int) ≠ (0 : Int)) ∧ ((((0 : Int) ≤ i) ∧ (i < (320 : Int))) ∧ (((2 : Int) ≠ (0 : Int)) ∧ (headP ref03_Mul_C ref03_Mul_lv [true, true, true, false, true, false, false, true, false, false, true, true, true, true, true, false] ref03_Mul_b (ref03_Mul_s2 n k_ (w64 (Int.tdiv (w64 (carry + (1 : Int))) (2 : Int))) (w64 (i + (1 : Int))) t4 x_ (Vector.setIfInBounds all (Int.toNat i) (decide ((Int.tmod (w64 (carry + (1 : Int))) (2 : Int)) = (1 : Int))))) (fnK ref03_Mul_C ref03_Mul_r ref03_Mul_hs Q)))))) (condP (eqb (decide ((w64 (i - k_)) < (256 : Int))) true) ((((0 : Int) ≤ (w64 (i - k_))) ∧ ((w64 (i - k_)) < (256 : Int))) ∧ (condP (bif true then (List.getD (Vector.toList x_) (Int.toNat (w64 (i - k_))) false) else false) (((2 : Int) ≠ (0 : Int)) ∧ ((((0 : Int) ≤ i) ∧ (i < (320 : Int))) ∧ (((2 : Int) ≠ (0 : Int)) ∧ (headP ref03_Mul_C ref03_Mul_lv [true, true, true, false, true, false, false, true, false, false, true, true, true, true, true, false] ref03_Mul_b (ref03_Mul_s2 n k_ (w64 (Int.tdiv (w64 (carry + (1 : Int))) (2 : Int))) (w64 (i + (1 : Int))) t4 x_ (Vector.setIfInBounds all (Int.toNat i) (decide ((Int.tmod (w64 (carry + (1 : Int))) (2 : Int)) = (1 : Int))))) (fnK ref03_Mul_C ref03_Mul_r ref03_Mul_hs Q))))) (((2 : Int) ≠ (0 : Int)) ∧ ((((0 : Int) ≤ i) ∧ (i < (320 : Int))) ∧ (((2 : Int) ≠ (0 : Int)) ∧ (headP ref03_Mul_C ref03_Mul_lv [true, true, true, false, true, false, false, true, false, false, true, true, true, true, true, false] ref03_Mul_b (ref03_Mul_s2 n k_ (w64 (Int.tdiv carry (2 : Int))) (w64 (i + (1 : Int))) t4 x_ (Vector.setIfInBounds all (Int.toNat i) (decide ((Int.tmod carry (2 : Int)) = (1 : Int))))) (fnK ref03_Mul_C ref03_Mul_r ref03_Mul_hs Q))))))) (((2 : Int) ≠ (0 : Int)) ∧ ((((0 : Int) ≤ i) ∧ (i < (320 : Int))) ∧ (((2 : Int) ≠ (0 : Int)) ∧ (headP ref03_Mul_C ref03_Mul_lv [true, true, true, false, true, false, false, true, false, false, true, true, true, true, true, false] ref03_Mul_b (ref03_Mul_s2 n k_ (w64 (Int.tdiv carry (2 : Int))) (w64 (i + (1 : Int))) t4 x_ (Vector.setIfInBounds all (Int.toNat i) (decide ((Int.tmod carry (2 : Int)) = (1 : Int))))) (fnK ref03_Mul_C ref03_Mul_r ref03_Mul_hs Q)))))))) (headP ref03_Mul_C ref03_Mul_lv [true, true, true, false, true, false] ref03_Mul_b (ref03_Mul_s0 n (w64 (k_ + (1 : Int))) t4 x_ all) (fnK ref03_Mul_C ref03_Mul_r ref03_Mul_hs Q))) := by kernel_rfl
theorem ref03_Mul_g4 (i : Int) (t4 : Vector UInt64 4) (all : Vector Bool 320) (low : Vector Bool 256) (Q : CallOut → Prop) : headRound ref03_Mul_C ref03_Mul_lv [true, true, true, true, true, false, true, false] ref03_Mul_b (ref03_Mul_s4 i t4 all low) (fnK ref03_Mul_C ref03_Mul_r ref03_Mul_hs Q) =
    (condP (decide (i < (256 : Int))) ((((0 : Int) ≤ i) ∧ (i < (320 : Int))) ∧ ((((0 : Int) ≤ i) ∧ (i < (256 : Int))) ∧ (headP ref03_Mul_C ref03_Mul_lv [true, true, true, true, true, false, true, false] ref03_Mul_b (ref03_Mul_s4 (w64 (i + (1 : Int))) t4 all (Vector.setIfInBounds low (Int.toNat i) (List.getD (Vector.toList all) (Int.toNat i) false))) (fnK ref03_Mul_C ref03_Mul_r ref03_Mul_hs Q)))) (headP ref03_Mul_C ref03_Mul_lv [true, true, true, true, true, true, true, false, true, false] ref03_Mul_b (ref03_Mul_s6 (0 : UInt64) (319 : Int) t4 all low) (fnK ref03_Mul_C ref03_Mul_r ref03_Mul_hs Q))) := by kernel_rfl
theorem ref03_Mul_g6 (high : UInt64) (i : Int) (t4 : Vector UInt64 4) (all : Vector Bool 320) (low : Vector Bool 256) (Q : CallOut → Prop) : headRound ref03_Mul_C ref03_Mul_lv [true, true, true, true, true, true, true, false, true, false] ref03_Mul_b (ref03_Mul_s6 high i t4 all low) (fnK ref03_Mul_C ref03_Mul_r ref03_Mul_hs Q) =
    (condP (decide ((256 : Int) ≤ i)) ((((0 : Int) ≤ i) ∧ (i < (320 : Int))) ∧ (condP (List.getD (Vector.toList all) (Int.toNat i) false) (headP ref03_Mul_C ref03_Mul_lv [true, true, true, true, true, true, true, false, true, false] ref03_Mul_b (ref03_Mul_s6 (((2 : UInt64) * high) + (1 : UInt64)) (w64 (i - (1 : Int))) t4 all low) (fnK ref03_Mul_C ref03_Mul_r ref03_Mul_hs Q)) (headP ref03_Mul_C ref03_Mul_lv [true, true, true, true, true, true, true, false, true, false] ref03_Mul_b (ref03_Mul_s6 ((2 : UInt64) * high) (w64 (i - (1 : Int))) t4 all low) (fnK ref03_Mul_C ref03_Mul_r ref03_Mul_hs Q)))) (Q (ref03_Mul_enc ((uW (bV low)), high)))) := by kernel_rfl
theorem ref03_Mul_k6 {r : Vector UInt64 4 × UInt64} {Q : CallOut → Prop} (hQ : Q (ref03_Mul_enc r)) : ∀ k : Nat, (∀ (high : UInt64) (i : Int) (t4 : Vector UInt64 4) (all : Vector Bool 320) (low : Vector Bool 256), ref03_Mul_h6 k high i t4 all low = some r → headP ref03_Mul_C ref03_Mul_lv [true, true, true, true, true, true, true, false, true, false] ref03_Mul_b (ref03_Mul_s6 high i t4 all low) (fnK ref03_Mul_C ref03_Mul_r ref03_Mul_hs Q))
  | 0 => fun _ _ _ _ _ h => no_ok h
  | k + 1 => fun high i t4 all low h => headP_step (Eq.mpr (ref03_Mul_g6 high i t4 all low Q) (have h := (ref03_Mul_h6_q k high i t4 all low).symm.trans h; cond_ok h (fun h => ite_ok h fun hc0 h => cond_ok h (fun h => (ref03_Mul_k6 hQ k) _ _ _ _ _ h) (fun h => (ref03_Mul_k6 hQ k) _ _ _ _ _ h)) (fun h => ret_ok (Q := Q) (e := ref03_Mul_enc) h hQ)))
theorem ref03_Mul_k4 {r : Vector UInt64 4 × UInt64} {Q : CallOut → Prop} (hQ : Q (ref03_Mul_enc r)) : ∀ k : Nat, (∀ (i : Int) (t4 : Vector UInt64 4) (all : Vector Bool 320) (low : Vector Bool 256), ref03_Mul_h4 k i t4 all low = some r → headP ref03_Mul_C ref03_Mul_lv [true, true, true, true, true, false, true, false] ref03_Mul_b (ref03_Mul_s4 i t4 all low) (fnK ref03_Mul_C ref03_Mul_r ref03_Mul_hs Q))
  | 0 => fun _ _ _ _ h => no_ok h
  | k + 1 => fun i t4 all low h => headP_step (Eq.mpr (ref03_Mul_g4 i t4 all low Q) (have h := (ref03_Mul_h4_q k i t4 all low).symm.trans h; cond_ok h (fun h => ite_ok h fun hc0 h => ite_ok h fun hc1 h => (ref03_Mul_k4 hQ k) _ _ _ _ h) (fun h => (ref03_Mul_k6 hQ _) _ _ _ _ _ h)))
theorem ref03_Mul_k0 {r : Vector UInt64 4 × UInt64} {Q : CallOut → Prop} (hQ : Q (ref03_Mul_enc r)) : ∀ k : Nat, (∀ (n : UInt64) (k_ : Int) (t4 : Vector UInt64 4) (x_ : Vector Bool 256) (all : Vector Bool 320), ref03_Mul_h0 k n k_ t4 x_ all = some r → headP ref03_Mul_C ref03_Mul_lv [true, true, true, false, true, false] ref03_Mul_b (ref03_Mul_s0 n k_ t4 x_ all) (fnK ref03_Mul_C ref03_Mul_r ref03_Mul_hs Q)) ∧ (∀ (n : UInt64) (k_ : Int) (carry : Int) (i : Int) (t4 : Vector UInt64 4) (x_ : Vector Bool 256) (all : Vector Bool 320), ref03_Mul_h2 k n k_ carry i t4 x_ all = some r → headP ref03_Mul_C ref03_Mul_lv [true, true, true, false, true, false, false, true, false, false, true, true, true, true, true, false] ref03_Mul_b (ref03_Mul_s2 n k_ carry i t4 x_ all) (fnK ref03_Mul_C ref03_Mul_r ref03_Mul_hs Q))
  | 0 => ⟨fun _ _ _ _ _ h => no_ok h, fun _ _ _ _ _ _ _ h => no_ok h⟩
  | k + 1 => ⟨fun n k_ t4 x_ all h => headP_step (Eq.mpr (ref03_Mul_g0 n k_ t4 x_ all Q) (have h := (ref03_Mul_h0_q k n k_ t4 x_ all).symm.trans h; cond_ok h (fun h => ⟨by decide +kernel, ⟨by decide +kernel, cond_ok h (fun h => (ref03_Mul_k0 hQ k).1 _ _ _ _ _ h) (fun h => (ref03_Mul_k0 hQ k).2 _ _ _ _ _ _ _ h)⟩⟩) (fun h => (ref03_Mul_k4 hQ _) _ _ _ _ h))),
    fun n k_ carry i t4 x_ all h => headP_step (Eq.mpr (ref03_Mul_g2 n k_ carry i t4 x_ all Q) (have h := (ref03_Mul_h2_q k n k_ carry i t4 x_ all).symm.trans h; cond_ok h (fun h => ite_ok h fun hc0 h => cond_ok h (fun h => cond_ok h (fun h => ite_ok h fun hc1 h => cond_ok h (fun h => ⟨by decide +kernel, ⟨hc0, ⟨by decide +kernel, (ref03_Mul_k0 hQ k).2 _ _ _ _ _ _ _ h⟩⟩⟩) (fun h => ⟨by decide +kernel, ⟨hc0, ⟨by decide +kernel, (ref03_Mul_k0 hQ k).2 _ _ _ _ _ _ _ h⟩⟩⟩)) (fun h => ⟨by decide +kernel, ⟨hc0, ⟨by decide +kernel, (ref03_Mul_k0 hQ k).2 _ _ _ _ _ _ _ h⟩⟩⟩)) (fun h => cond_ok h (fun h => ite_ok h fun hc1 h => cond_ok h (fun h => ⟨by decide +kernel, ⟨hc0, ⟨by decide +kernel, (ref03_Mul_k0 hQ k).2 _ _ _ _ _ _ _ h⟩⟩⟩) (fun h => ⟨by decide +kernel, ⟨hc0, ⟨by decide +kernel, (ref03_Mul_k0 hQ k).2 _ _ _ _ _ _ _ h⟩⟩⟩)) (fun h => ⟨by decide +kernel, ⟨hc0, ⟨by decide +kernel, (ref03_Mul_k0 hQ k).2 _ _ _ _ _ _ _ h⟩⟩⟩))) (fun h => (ref03_Mul_k0 hQ k).1 _ _ _ _ _ h)))⟩
theorem ref03_Mul_e (a : Vector UInt64 4) (n : UInt64) (Q : CallOut → Prop) : evalFnP ref03_Mul_C ref03_Mul_lv ref03_Mul_r ref03_Mul_hs ref03_Mul_b [.pv (.arr .u64 4 a), .pv (.sc .u64 n)] [] Q =
    (headP ref03_Mul_C ref03_Mul_lv [true, true, true, false, true, false] ref03_Mul_b (ref03_Mul_s0 n (0 : Int) (Vector.replicate (4 : Nat) (0 : UInt64)) (bitsV (uV a)) (Vector.replicate (320 : Nat) false)) (fnK ref03_Mul_C ref03_Mul_r ref03_Mul_hs Q)) := by kernel_rfl
theorem ref03_Mul_w {k : Nat} (a : Vector UInt64 4) (n : UInt64) {r} {Q : CallOut → Prop} (h : ref03_Mul k a n = some r) (hQ : Q (ref03_Mul_enc r)) : evalFnP ref03_Mul_C ref03_Mul_lv ref03_Mul_r ref03_Mul_hs ref03_Mul_b [.pv (.arr .u64 4 a), .pv (.sc .u64 n)] [] Q :=
  Eq.mpr (ref03_Mul_e a n Q) (have h := (ref03_Mul_q k a n).symm.trans h; (ref03_Mul_k0 hQ _).1 _ _ _ _ _ h)
def ref03_Mul_c : Ans
  | [.pv (.arr .u64 4 a), .pv (.sc .u64 n)], [] => some (none, ref03_Mul_enc ((uW (uV a * n.toNat), mulC a n)))
  | _, _ => none
theorem ref03_Mul_tok : TblOK Try.prog noG ref03_Mul_T := .cons ⟨by kernel_rfl, ref03_Bits_ok⟩ (.cons ⟨by kernel_rfl, ref03_Number_ok⟩ (.nil))
theorem ref03_Mul_ok : FnOK Try.prog noG 39 (unW ref03_Mul_c) := by
  refine FnOK.ofC (T := ref03_Mul_T) (nt := 83) (np := 0) (nf := false) (hs := ref03_Mul_hs) (fn := Try.f39) (body := ref03_Mul_b) ref03_Mul_tok (by kernel_rfl) (by kernel_rfl) (by kernel_rfl) (by kernel_rfl) (c := ref03_Mul_c) (lv := ref03_Mul_lv) ?_
  intro xs mem p out h hp
  unfold ref03_Mul_c at h
  split at h
  · cases h
    obtain ⟨k, hk⟩ := ref03_Mul_spec _ _
    exact ref03_Mul_w _ _ hk rfl
  · cases h
end
end Go.Proofs.Ytepcjobghbanmaa.M
