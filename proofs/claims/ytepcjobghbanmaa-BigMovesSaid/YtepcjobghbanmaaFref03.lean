/- Part of the proofs: what functions of the program do: plain functions, and the walks that show it. No condition. -/
import Derived.KernelRfl
import Derived.Test.YtepcjobghbanmaaProg
import Derived.Test.YtepcjobghbanmaaLd
import Derived.Test.YtepcjobghbanmaaSwords
import Derived.Test.YtepcjobghbanmaaSbigS
import Derived.Test.YtepcjobghbanmaaSbigB
set_option linter.unusedVariables false
set_option linter.unusedSimpArgs false
set_option autoImplicit false
namespace Go.Proofs.Ytepcjobghbanmaa.M
open Go
noncomputable section
mutual
/-- the loop 0 of moneyer/moneyerref03.Bits -/
def ref03_Bits_h0 : Nat → Int → (Vector UInt64 4) → (Vector Bool 256) → (Vector Bool 256) → Option (Vector Bool 256)
  | 0, _, _, _, _ => none
  | k + 1, i, a, t2, l => bif decide (i < (256 : Int)) then (if ((0 : Int) ≤ (w64 (Int.tdiv i (64 : Int)))) ∧ ((w64 (Int.tdiv i (64 : Int))) < (4 : Int)) then
        ref03_Bits_h2 k i (List.getD (Vector.toList a) (Int.toNat (w64 (Int.tdiv i (64 : Int)))) (0 : UInt64)) (0 : Int) a t2 l
      else none)
      else (some l)
/-- the loop 2 of moneyer/moneyerref03.Bits -/
def ref03_Bits_h2 : Nat → Int → UInt64 → Int → (Vector UInt64 4) → (Vector Bool 256) → (Vector Bool 256) → Option (Vector Bool 256)
  | 0, _, _, _, _, _, _ => none
  | k + 1, i, n, k_, a, t2, l => bif decide (k_ < (Int.tmod i (64 : Int))) then (ref03_Bits_h2 k i (n / (2 : UInt64)) (w64 (k_ + (1 : Int))) a t2 l)
      else (if ((0 : Int) ≤ i) ∧ (i < (256 : Int)) then
        ref03_Bits_h0 k (w64 (i + (1 : Int))) a t2 (Vector.setIfInBounds l (Int.toNat i) (decide ((n % (2 : UInt64)) = (1 : UInt64))))
      else none)
end
theorem ref03_Bits_h0_q (k : Nat) (i : Int) (a : Vector UInt64 4) (t2 : Vector Bool 256) (l : Vector Bool 256) : ref03_Bits_h0 (k + 1) i a t2 l =
  (bif decide (i < (256 : Int)) then (if ((0 : Int) ≤ (w64 (Int.tdiv i (64 : Int)))) ∧ ((w64 (Int.tdiv i (64 : Int))) < (4 : Int)) then
        ref03_Bits_h2 k i (List.getD (Vector.toList a) (Int.toNat (w64 (Int.tdiv i (64 : Int)))) (0 : UInt64)) (0 : Int) a t2 l
      else none)
      else (some l)) := by kernel_rfl
theorem ref03_Bits_h2_q (k : Nat) (i : Int) (n : UInt64) (k_ : Int) (a : Vector UInt64 4) (t2 : Vector Bool 256) (l : Vector Bool 256) : ref03_Bits_h2 (k + 1) i n k_ a t2 l =
  (bif decide (k_ < (Int.tmod i (64 : Int))) then (ref03_Bits_h2 k i (n / (2 : UInt64)) (w64 (k_ + (1 : Int))) a t2 l)
      else (if ((0 : Int) ≤ i) ∧ (i < (256 : Int)) then
        ref03_Bits_h0 k (w64 (i + (1 : Int))) a t2 (Vector.setIfInBounds l (Int.toNat i) (decide ((n % (2 : UInt64)) = (1 : UInt64))))
      else none)) := by kernel_rfl
/-- moneyer/moneyerref03.Bits -/
def ref03_Bits (k : Nat) (a : Vector UInt64 4) : Option (Vector Bool 256) :=
  ref03_Bits_h0 k (0 : Int) a (Vector.replicate (256 : Nat) false) (Vector.replicate (256 : Nat) false)
theorem ref03_Bits_q (k : Nat) (a : Vector UInt64 4) : ref03_Bits k a = (ref03_Bits_h0 k (0 : Int) a (Vector.replicate (256 : Nat) false) (Vector.replicate (256 : Nat) false)) := by kernel_rfl
theorem ref03_Bits_spec (a : Vector UInt64 4) : ∃ k, ref03_Bits k a = some (bitsV (uV a)) := by
  show Ev (fun k => ref03_Bits k a) _
  refine Ev.same (fun k => ref03_Bits_q k a) ?_
  have inner : ∀ (i : Nat), i < 256 → ∀ (l : Vector Bool 256) (r : Vector Bool 256), Ev (fun f => ref03_Bits_h0 f ((i : Int) + 1) a (Vector.replicate 256 false) (Vector.setIfInBounds l i ((uV a).testBit i))) r →
      Ev (fun f => ref03_Bits_h2 f i (List.getD (Vector.toList a) (i / 64) 0) 0 a (Vector.replicate 256 false) l) r := by
    intro i hi l r e
    have gen : ∀ j k, k + j = i % 64 → ∀ n : UInt64, n.toNat = gW a (i / 64) / 2 ^ k → Ev (fun f => ref03_Bits_h2 f i n ((k : Nat) : Int) a (Vector.replicate 256 false) l) r := by
      have em : Int.tmod (i : Int) 64 = ((i % 64 : Nat) : Int) := rfl
      intro j
      induction j with
      | zero =>
        intro k hk n hn
        refine Ev.step (fun f => ?_) e
        have hb : decide (n % 2 = 1) = (uV a).testBit i := by
          rw [uV_bit a i hi, Nat.testBit_eq_decide_div_mod_eq]
          rw [decide_eq_decide, ← UInt64.toNat_inj, UInt64.toNat_mod, hn]
          rw [show k = i % 64 by omega]
          rfl
        rw [ref03_Bits_h2_q, em, bif_neg (by omega), if_pos (by omega), hb, Int.toNat_natCast, w64_id (by omega) (by omega)]
      | succ j ih =>
        intro k hk n hn
        refine Ev.step (fun f => ?_) (ih (k + 1) (by omega) (n / 2) ?_)
        · rw [ref03_Bits_h2_q, em, bif_pos (by omega), w64_id (by omega) (by omega)]
          rfl
        · rw [UInt64.toNat_div, hn, Nat.pow_succ, ← Nat.div_div_eq_div_mul]
          rfl
    exact gen (i % 64) 0 (by omega) _ (by rw [Nat.pow_zero, Nat.div_one]; rfl)
  refine Ev.up (H := fun k i l => ref03_Bits_h0 k i a (Vector.replicate 256 false) l) (lo := 0) (n := 256) (step := fun i l => Vector.setIfInBounds l i ((uV a).testBit i)) ?_ 256 0 _ (Nat.le_refl 0) rfl ?_
  · intro i l _ hi e
    have ed : Int.tdiv (i : Int) 64 = ((i / 64 : Nat) : Int) := rfl
    refine Ev.step (fun f => ?_) (inner i hi l _ e)
    rw [ref03_Bits_h0_q, bif_pos (by omega), ed, w64_id (by omega) (by omega), if_pos (by omega), Int.toNat_natCast]
  · refine Ev.done fun f => ?_
    rw [ref03_Bits_h0_q, bif_neg (by omega), iterUp_fill (fun i => (uV a).testBit i)]
    rfl

end
end Go.Proofs.Ytepcjobghbanmaa.M

namespace Go.Proofs.Ytepcjobghbanmaa.M
open Go
noncomputable section
/-- the loop 0 of moneyer/moneyerref03.Number -/
def ref03_Number_h0 : Nat → Int → (Vector Bool 256) → (Vector UInt64 4) → (Vector UInt64 4) → Option (Vector UInt64 4)
  | 0, _, _, _, _ => none
  | k + 1, i, l, t2, a => bif decide ((0 : Int) ≤ i) then (if ((0 : Int) ≤ (w64 (Int.tdiv i (64 : Int)))) ∧ ((w64 (Int.tdiv i (64 : Int))) < (4 : Int)) then
        if ((0 : Int) ≤ i) ∧ (i < (256 : Int)) then
          bif List.getD (Vector.toList l) (Int.toNat i) false then (ref03_Number_h0 k (w64 (i - (1 : Int))) l t2 (Vector.setIfInBounds (Vector.setIfInBounds a (Int.toNat (w64 (Int.tdiv i (64 : Int)))) ((2 : UInt64) * (List.getD (Vector.toList a) (Int.toNat (w64 (Int.tdiv i (64 : Int)))) (0 : UInt64)))) (Int.toNat (w64 (Int.tdiv i (64 : Int)))) ((List.getD (Vector.toList (Vector.setIfInBounds a (Int.toNat (w64 (Int.tdiv i (64 : Int)))) ((2 : UInt64) * (List.getD (Vector.toList a) (Int.toNat (w64 (Int.tdiv i (64 : Int)))) (0 : UInt64))))) (Int.toNat (w64 (Int.tdiv i (64 : Int)))) (0 : UInt64)) + (1 : UInt64))))
            else (ref03_Number_h0 k (w64 (i - (1 : Int))) l t2 (Vector.setIfInBounds a (Int.toNat (w64 (Int.tdiv i (64 : Int)))) ((2 : UInt64) * (List.getD (Vector.toList a) (Int.toNat (w64 (Int.tdiv i (64 : Int)))) (0 : UInt64)))))
        else none
      else none)
      else (some a)
theorem ref03_Number_h0_q (k : Nat) (i : Int) (l : Vector Bool 256) (t2 : Vector UInt64 4) (a : Vector UInt64 4) : ref03_Number_h0 (k + 1) i l t2 a =
  (bif decide ((0 : Int) ≤ i) then (if ((0 : Int) ≤ (w64 (Int.tdiv i (64 : Int)))) ∧ ((w64 (Int.tdiv i (64 : Int))) < (4 : Int)) then
        if ((0 : Int) ≤ i) ∧ (i < (256 : Int)) then
          bif List.getD (Vector.toList l) (Int.toNat i) false then (ref03_Number_h0 k (w64 (i - (1 : Int))) l t2 (Vector.setIfInBounds (Vector.setIfInBounds a (Int.toNat (w64 (Int.tdiv i (64 : Int)))) ((2 : UInt64) * (List.getD (Vector.toList a) (Int.toNat (w64 (Int.tdiv i (64 : Int)))) (0 : UInt64)))) (Int.toNat (w64 (Int.tdiv i (64 : Int)))) ((List.getD (Vector.toList (Vector.setIfInBounds a (Int.toNat (w64 (Int.tdiv i (64 : Int)))) ((2 : UInt64) * (List.getD (Vector.toList a) (Int.toNat (w64 (Int.tdiv i (64 : Int)))) (0 : UInt64))))) (Int.toNat (w64 (Int.tdiv i (64 : Int)))) (0 : UInt64)) + (1 : UInt64))))
            else (ref03_Number_h0 k (w64 (i - (1 : Int))) l t2 (Vector.setIfInBounds a (Int.toNat (w64 (Int.tdiv i (64 : Int)))) ((2 : UInt64) * (List.getD (Vector.toList a) (Int.toNat (w64 (Int.tdiv i (64 : Int)))) (0 : UInt64)))))
        else none
      else none)
      else (some a)) := by kernel_rfl
/-- moneyer/moneyerref03.Number -/
def ref03_Number (k : Nat) (l : Vector Bool 256) : Option (Vector UInt64 4) :=
  ref03_Number_h0 k (255 : Int) l (Vector.replicate (4 : Nat) (0 : UInt64)) (Vector.replicate (4 : Nat) (0 : UInt64))
theorem ref03_Number_q (k : Nat) (l : Vector Bool 256) : ref03_Number k l = (ref03_Number_h0 k (255 : Int) l (Vector.replicate (4 : Nat) (0 : UInt64)) (Vector.replicate (4 : Nat) (0 : UInt64))) := by kernel_rfl
theorem ref03_Number_spec (l : Vector Bool 256) : ∃ k, ref03_Number k l = some (uW (bV l)) := by
  show Ev (fun k => ref03_Number k l) _
  refine Ev.same (fun k => ref03_Number_q k l) ?_
  let Inv : Nat → Vector UInt64 4 → Prop := fun i a => ∀ q, q < 4 → gW a q = if i ≤ 64 * q then bV l / 2 ^ (64 * q) % 18446744073709551616 else if i < 64 * (q + 1) then bV l / 2 ^ i % 2 ^ (64 * (q + 1) - i) else 0
  have gen : ∀ i a, i ≤ 256 → Inv i a → Ev (fun f => ref03_Number_h0 f ((i : Int) - 1) l (Vector.replicate 4 0) a) (uW (bV l)) := by
    intro i
    induction i with
    | zero =>
      intro a _ h
      refine Ev.done fun f => ?_
      rw [ref03_Number_h0_q, bif_neg (by omega)]
      refine congrArg some (w_ext fun q hq => ?_)
      rw [h q hq, if_pos (by omega), uW_get _ _ hq, Nat.pow_mul]
    | succ i ih =>
      intro a hi h
      have ed : Int.tdiv (i : Int) 64 = ((i / 64 : Nat) : Int) := rfl
      have hq0 : i / 64 < 4 := by omega
      have hold := h (i / 64) hq0
      have hbit : (List.getD (Vector.toList l) i false).toNat = bV l / 2 ^ i % 2 := by rw [← bV_bit, bit_nat]
      have hnew : 2 * gW a (i / 64) + (List.getD (Vector.toList l) i false).toNat = if i ≤ 64 * (i / 64) then bV l / 2 ^ (64 * (i / 64)) % 18446744073709551616 else bV l / 2 ^ i % 2 ^ (64 * (i / 64 + 1) - i) := by
        have e : (if i ≤ 64 * (i / 64) then bV l / 2 ^ (64 * (i / 64)) % 18446744073709551616 else bV l / 2 ^ i % 2 ^ (64 * (i / 64 + 1) - i)) = bV l / 2 ^ i % 2 ^ (64 * (i / 64 + 1) - i) := by
          split
          · have : 64 * (i / 64) = i := by omega
            rw [this, show 64 * (i / 64 + 1) - i = 64 by omega]
          · rfl
        rw [e, hold, hbit, if_neg (by omega)]
        by_cases hb : i + 1 < 64 * (i / 64 + 1)
        · rw [if_pos hb, show 64 * (i / 64 + 1) - i = (64 * (i / 64 + 1) - (i + 1)) + 1 by omega, Nat.pow_succ (m := 64 * (i / 64 + 1) - (i + 1)), Nat.mul_comm (2 ^ (64 * (i / 64 + 1) - (i + 1))) 2, Nat.mod_mul, Nat.pow_succ, ← Nat.div_div_eq_div_mul]
          omega
        · rw [if_neg hb, show 64 * (i / 64 + 1) - i = 1 by omega]
          omega
      have hlt : 2 * gW a (i / 64) + (List.getD (Vector.toList l) i false).toNat < 18446744073709551616 := by
        rw [hnew]
        split
        · exact Nat.mod_lt _ (by omega)
        · refine Nat.lt_of_lt_of_le (Nat.mod_lt _ (Nat.two_pow_pos _)) ?_
          have : 2 ^ (64 * (i / 64 + 1) - i) ≤ 2 ^ 64 := Nat.pow_le_pow_right (by decide) (by omega)
          exact this
      have fin : ∀ x : UInt64, x.toNat = 2 * gW a (i / 64) + (List.getD (Vector.toList l) i false).toNat → Inv i (Vector.setIfInBounds a (i / 64) x) := by
        intro x hx q hq
        unfold gW
        rw [vget_set _ _ _ _ _ hq0]
        by_cases e : i / 64 = q
        · subst e
          rw [if_pos rfl, hx, hnew]
          split
          · rfl
          · rw [if_pos (by omega)]
        · rw [if_neg e]
          have := h q hq
          unfold gW at this
          rw [this]
          by_cases c1 : i + 1 ≤ 64 * q
          · rw [if_pos c1, if_pos (by omega)]
          · rw [if_neg c1, if_neg (by omega), if_neg (by omega), if_neg (by omega)]
      have e1 : ((i + 1 : Nat) : Int) - 1 = (i : Int) := by omega
      have hg : gW a (i / 64) = (List.getD (Vector.toList a) (i / 64) 0).toNat := rfl
      have e2 : ((2 : UInt64) * List.getD (Vector.toList a) (i / 64) 0).toNat = 2 * gW a (i / 64) := by
        rw [UInt64.toNat_mul, ← hg, show (2 : UInt64).toNat = 2 from rfl]
        omega
      cases hb : List.getD (Vector.toList l) i false with
      | true =>
        rw [hb] at fin hlt
        simp only [Bool.toNat_true] at fin hlt
        refine Ev.step (fun f => ?_) (ih (Vector.setIfInBounds a (i / 64) ((2 : UInt64) * List.getD (Vector.toList a) (i / 64) 0 + 1)) (by omega) (fin _ (by rw [UInt64.toNat_add, e2, show (1 : UInt64).toNat = 1 from rfl]; omega)))
        rw [e1, ref03_Number_h0_q, bif_pos (by omega), ed, w64_id (by omega) (by omega), if_pos (by omega), if_pos (by omega), Int.toNat_natCast, Int.toNat_natCast, hb, cond_true, w64_id (by omega) (by omega)]
        rw [vget_set _ _ _ _ _ hq0, if_pos rfl]
        congr 1
        refine vext 0 fun j hj => ?_
        rw [vget_set _ _ _ _ _ hq0, vget_set _ _ _ _ _ hq0, vget_set _ _ _ _ _ hq0]
        split <;> rfl
      | false =>
        rw [hb] at fin
        simp only [Bool.toNat_false, Nat.add_zero] at fin
        refine Ev.step (fun f => ?_) (ih (Vector.setIfInBounds a (i / 64) ((2 : UInt64) * List.getD (Vector.toList a) (i / 64) 0)) (by omega) (fin _ e2))
        rw [e1, ref03_Number_h0_q, bif_pos (by omega), ed, w64_id (by omega) (by omega), if_pos (by omega), if_pos (by omega), Int.toNat_natCast, Int.toNat_natCast, hb, cond_false, w64_id (by omega) (by omega)]
  refine gen 256 _ (Nat.le_refl _) fun q hq => ?_
  rw [if_neg (by omega), if_neg (by omega)]
  unfold gW
  rw [vget_rep]
  rfl

end
end Go.Proofs.Ytepcjobghbanmaa.M

namespace Go.Proofs.Ytepcjobghbanmaa.M
open Go
noncomputable section
/-- the loop 0 of moneyer/moneyerref03.Left -/
def ref03_Left_h0 : Nat → Int → Int → (Vector UInt64 4) → (Vector Bool 256) → (Vector Bool 256) → Option (Vector UInt64 4)
  | 0, _, _, _, _, _ => none
  | k + 1, n, i, t4, x_, l => bif decide (i < (256 : Int)) then (bif eqb (decide (n ≤ i)) true then (if ((0 : Int) ≤ (w64 (i - (bif true then (if (i < n) then i else n) else (if (i > n) then i else n))))) ∧ ((w64 (i - (bif true then (if (i < n) then i else n) else (if (i > n) then i else n)))) < (256 : Int)) then
          if ((0 : Int) ≤ i) ∧ (i < (256 : Int)) then
            ref03_Left_h0 k n (w64 (i + (1 : Int))) t4 x_ (Vector.setIfInBounds l (Int.toNat i) (bif true then (List.getD (Vector.toList x_) (Int.toNat (w64 (i - (bif true then (if (i < n) then i else n) else (if (i > n) then i else n))))) false) else false))
          else none
        else none)
        else (if ((0 : Int) ≤ i) ∧ (i < (256 : Int)) then
          ref03_Left_h0 k n (w64 (i + (1 : Int))) t4 x_ (Vector.setIfInBounds l (Int.toNat i) false)
        else none))
      else (some (uW (bV l)))
theorem ref03_Left_h0_q (k : Nat) (n : Int) (i : Int) (t4 : Vector UInt64 4) (x_ : Vector Bool 256) (l : Vector Bool 256) : ref03_Left_h0 (k + 1) n i t4 x_ l =
  (bif decide (i < (256 : Int)) then (bif eqb (decide (n ≤ i)) true then (if ((0 : Int) ≤ (w64 (i - (bif true then (if (i < n) then i else n) else (if (i > n) then i else n))))) ∧ ((w64 (i - (bif true then (if (i < n) then i else n) else (if (i > n) then i else n)))) < (256 : Int)) then
          if ((0 : Int) ≤ i) ∧ (i < (256 : Int)) then
            ref03_Left_h0 k n (w64 (i + (1 : Int))) t4 x_ (Vector.setIfInBounds l (Int.toNat i) (bif true then (List.getD (Vector.toList x_) (Int.toNat (w64 (i - (bif true then (if (i < n) then i else n) else (if (i > n) then i else n))))) false) else false))
          else none
        else none)
        else (if ((0 : Int) ≤ i) ∧ (i < (256 : Int)) then
          ref03_Left_h0 k n (w64 (i + (1 : Int))) t4 x_ (Vector.setIfInBounds l (Int.toNat i) false)
        else none))
      else (some (uW (bV l)))) := by kernel_rfl
/-- moneyer/moneyerref03.Left -/
def ref03_Left (k : Nat) (a : Vector UInt64 4) (n : Int) : Option (Vector UInt64 4) :=
  bif decide (n < (0 : Int)) then (ref03_Left_h0 k (0 : Int) (0 : Int) (Vector.replicate (4 : Nat) (0 : UInt64)) (bitsV (uV a)) (Vector.replicate (256 : Nat) false))
    else (ref03_Left_h0 k n (0 : Int) (Vector.replicate (4 : Nat) (0 : UInt64)) (bitsV (uV a)) (Vector.replicate (256 : Nat) false))
theorem ref03_Left_q (k : Nat) (a : Vector UInt64 4) (n : Int) : ref03_Left k a n = (bif decide (n < (0 : Int)) then (ref03_Left_h0 k (0 : Int) (0 : Int) (Vector.replicate (4 : Nat) (0 : UInt64)) (bitsV (uV a)) (Vector.replicate (256 : Nat) false))
    else (ref03_Left_h0 k n (0 : Int) (Vector.replicate (4 : Nat) (0 : UInt64)) (bitsV (uV a)) (Vector.replicate (256 : Nat) false))) := by kernel_rfl
theorem ref03_Left_loop (a : Vector UInt64 4) (N : Nat) (hN : N < 9223372036854775808) : Ev (fun k => ref03_Left_h0 k (N : Int) 0 (Vector.replicate 4 0) (bitsV (uV a)) (Vector.replicate 256 false)) (uW (uV a * 2 ^ N)) := by
  refine Ev.inv (H := fun k i l => ref03_Left_h0 k (N : Int) i (Vector.replicate 4 0) (bitsV (uV a)) l) (n := 256)
    (fun i l => ∀ j, j < i → List.getD (Vector.toList l) j false = (uV a * 2 ^ N).testBit j) ?_ ?_ 256 0 _ rfl (fun j hj => by omega)
  · intro i l hi hv next
    have fin : ∀ b : Bool, b = (uV a * 2 ^ N).testBit i → ∀ j, j < i + 1 → List.getD (Vector.toList (Vector.setIfInBounds l i b)) j false = (uV a * 2 ^ N).testBit j := by
      intro b hb j hj
      rw [vget_set _ _ _ _ _ (by omega)]
      by_cases e : i = j
      · subst e; rw [if_pos rfl, hb]
      · rw [if_neg e, hv j (by omega)]
    by_cases c : N ≤ i
    · refine Ev.step (fun k => ?_) (next (Vector.setIfInBounds l i ((uV a).testBit (i - N))) (fin _ ?_))
      · rw [ref03_Left_h0_q, bif_pos (by omega), decide_eq_true (p := (N : Int) ≤ (i : Int)) (by omega)]
        simp only [eqb, cond_true]
        have hm : (if (i : Int) < (N : Int) then (i : Int) else (N : Int)) = (N : Int) := by split <;> omega
        rw [hm, w64_id (by omega) (by omega), if_pos (by omega), if_pos (by omega), w64_id (by omega) (by omega), show Int.toNat ((i : Int) - (N : Int)) = i - N by omega, bitsV_get _ _ (by omega), Int.toNat_natCast]
      · rw [Nat.testBit_mul_two_pow, decide_eq_true c, Bool.true_and]
    · refine Ev.step (fun k => ?_) (next (Vector.setIfInBounds l i false) (fin _ ?_))
      · rw [ref03_Left_h0_q, bif_pos (by omega), decide_eq_false (p := (N : Int) ≤ (i : Int)) (by omega)]
        simp only [eqb, cond_false]
        rw [if_pos (by omega), w64_id (by omega) (by omega), Int.toNat_natCast]
      · rw [Nat.testBit_mul_two_pow, decide_eq_false c, Bool.false_and]
  · intro l hv
    refine Ev.done fun k => ?_
    show ref03_Left_h0 (k + 1) _ _ _ _ _ = _
    rw [ref03_Left_h0_q, bif_neg (by omega)]
    refine congrArg some (u_bit_ext fun i hi => ?_)
    rw [uW_bit, uW_bit, bV_bit, hv i hi]
theorem ref03_Left_spec (a : Vector UInt64 4) (n : Int) (h : -9223372036854775808 ≤ n ∧ n < 9223372036854775808) : ∃ k, ref03_Left k a n = some (uW (uV a * 2 ^ n.toNat)) := by
  show Ev (fun k => ref03_Left k a n) _
  refine Ev.same (fun k => ref03_Left_q k a n) ?_
  by_cases c0 : n < 0
  · refine Ev.same (fun k => bif_pos c0) ?_
    rw [show n.toNat = 0 by omega]
    exact ref03_Left_loop a 0 (by omega)
  · refine Ev.same (fun k => bif_neg c0) ?_
    obtain ⟨N, rfl⟩ : ∃ N : Nat, n = (N : Int) := ⟨n.toNat, by omega⟩
    rw [Int.toNat_natCast]
    exact ref03_Left_loop a N (by omega)

end
end Go.Proofs.Ytepcjobghbanmaa.M

namespace Go.Proofs.Ytepcjobghbanmaa.M
open Go
noncomputable section
/-- the loop 0 of moneyer/moneyerref03.Right -/
def ref03_Right_h0 : Nat → Int → Int → (Vector UInt64 4) → (Vector Bool 256) → (Vector Bool 256) → Option (Vector UInt64 4)
  | 0, _, _, _, _, _ => none
  | k + 1, n, i, t4, x_, l => bif decide (i < (256 : Int)) then (bif eqb (decide (n < (w64 ((256 : Int) - i)))) true then (if ((0 : Int) ≤ (w64 (i + (bif true then (if ((w64 ((255 : Int) - i)) < n) then (w64 ((255 : Int) - i)) else n) else (if ((w64 ((255 : Int) - i)) > n) then (w64 ((255 : Int) - i)) else n))))) ∧ ((w64 (i + (bif true then (if ((w64 ((255 : Int) - i)) < n) then (w64 ((255 : Int) - i)) else n) else (if ((w64 ((255 : Int) - i)) > n) then (w64 ((255 : Int) - i)) else n)))) < (256 : Int)) then
          if ((0 : Int) ≤ i) ∧ (i < (256 : Int)) then
            ref03_Right_h0 k n (w64 (i + (1 : Int))) t4 x_ (Vector.setIfInBounds l (Int.toNat i) (bif true then (List.getD (Vector.toList x_) (Int.toNat (w64 (i + (bif true then (if ((w64 ((255 : Int) - i)) < n) then (w64 ((255 : Int) - i)) else n) else (if ((w64 ((255 : Int) - i)) > n) then (w64 ((255 : Int) - i)) else n))))) false) else false))
          else none
        else none)
        else (if ((0 : Int) ≤ i) ∧ (i < (256 : Int)) then
          ref03_Right_h0 k n (w64 (i + (1 : Int))) t4 x_ (Vector.setIfInBounds l (Int.toNat i) false)
        else none))
      else (some (uW (bV l)))
theorem ref03_Right_h0_q (k : Nat) (n : Int) (i : Int) (t4 : Vector UInt64 4) (x_ : Vector Bool 256) (l : Vector Bool 256) : ref03_Right_h0 (k + 1) n i t4 x_ l =
  (bif decide (i < (256 : Int)) then (bif eqb (decide (n < (w64 ((256 : Int) - i)))) true then (if ((0 : Int) ≤ (w64 (i + (bif true then (if ((w64 ((255 : Int) - i)) < n) then (w64 ((255 : Int) - i)) else n) else (if ((w64 ((255 : Int) - i)) > n) then (w64 ((255 : Int) - i)) else n))))) ∧ ((w64 (i + (bif true then (if ((w64 ((255 : Int) - i)) < n) then (w64 ((255 : Int) - i)) else n) else (if ((w64 ((255 : Int) - i)) > n) then (w64 ((255 : Int) - i)) else n)))) < (256 : Int)) then
          if ((0 : Int) ≤ i) ∧ (i < (256 : Int)) then
            ref03_Right_h0 k n (w64 (i + (1 : Int))) t4 x_ (Vector.setIfInBounds l (Int.toNat i) (bif true then (List.getD (Vector.toList x_) (Int.toNat (w64 (i + (bif true then (if ((w64 ((255 : Int) - i)) < n) then (w64 ((255 : Int) - i)) else n) else (if ((w64 ((255 : Int) - i)) > n) then (w64 ((255 : Int) - i)) else n))))) false) else false))
          else none
        else none)
        else (if ((0 : Int) ≤ i) ∧ (i < (256 : Int)) then
          ref03_Right_h0 k n (w64 (i + (1 : Int))) t4 x_ (Vector.setIfInBounds l (Int.toNat i) false)
        else none))
      else (some (uW (bV l)))) := by kernel_rfl
/-- moneyer/moneyerref03.Right -/
def ref03_Right (k : Nat) (a : Vector UInt64 4) (n : Int) : Option (Vector UInt64 4) :=
  bif decide (n < (0 : Int)) then (ref03_Right_h0 k (0 : Int) (0 : Int) (Vector.replicate (4 : Nat) (0 : UInt64)) (bitsV (uV a)) (Vector.replicate (256 : Nat) false))
    else (ref03_Right_h0 k n (0 : Int) (Vector.replicate (4 : Nat) (0 : UInt64)) (bitsV (uV a)) (Vector.replicate (256 : Nat) false))
theorem ref03_Right_q (k : Nat) (a : Vector UInt64 4) (n : Int) : ref03_Right k a n = (bif decide (n < (0 : Int)) then (ref03_Right_h0 k (0 : Int) (0 : Int) (Vector.replicate (4 : Nat) (0 : UInt64)) (bitsV (uV a)) (Vector.replicate (256 : Nat) false))
    else (ref03_Right_h0 k n (0 : Int) (Vector.replicate (4 : Nat) (0 : UInt64)) (bitsV (uV a)) (Vector.replicate (256 : Nat) false))) := by kernel_rfl
theorem ref03_Right_loop (a : Vector UInt64 4) (N : Nat) (hN : N < 9223372036854775808) : Ev (fun k => ref03_Right_h0 k (N : Int) 0 (Vector.replicate 4 0) (bitsV (uV a)) (Vector.replicate 256 false)) (uW (uV a / 2 ^ N)) := by
  refine Ev.inv (H := fun k i l => ref03_Right_h0 k (N : Int) i (Vector.replicate 4 0) (bitsV (uV a)) l) (n := 256)
    (fun i l => ∀ j, j < i → List.getD (Vector.toList l) j false = (uV a / 2 ^ N).testBit j) ?_ ?_ 256 0 _ rfl (fun j hj => by omega)
  · intro i l hi hv next
    have fin : ∀ b : Bool, b = (uV a / 2 ^ N).testBit i → ∀ j, j < i + 1 → List.getD (Vector.toList (Vector.setIfInBounds l i b)) j false = (uV a / 2 ^ N).testBit j := by
      intro b hb j hj
      rw [vget_set _ _ _ _ _ (by omega)]
      by_cases e : i = j
      · subst e; rw [if_pos rfl, hb]
      · rw [if_neg e, hv j (by omega)]
    have h5 : w64 ((256 : Int) - (i : Int)) = ((256 - i : Nat) : Int) := by rw [w64_id (by omega) (by omega)]; omega
    have h6 : w64 ((255 : Int) - (i : Int)) = ((255 - i : Nat) : Int) := by rw [w64_id (by omega) (by omega)]; omega
    by_cases c : N < 256 - i
    · refine Ev.step (fun k => ?_) (next (Vector.setIfInBounds l i ((uV a).testBit (i + N))) (fin _ ?_))
      · rw [ref03_Right_h0_q, bif_pos (by omega), h5, h6, decide_eq_true (p := (N : Int) < ((256 - i : Nat) : Int)) (by omega)]
        simp only [eqb, cond_true]
        have hm : (if ((255 - i : Nat) : Int) < (N : Int) then ((255 - i : Nat) : Int) else (N : Int)) = (N : Int) := by split <;> omega
        rw [hm, w64_id (by omega) (by omega), if_pos (by omega), if_pos (by omega), w64_id (by omega) (by omega), show Int.toNat ((i : Int) + (N : Int)) = i + N by omega, bitsV_get _ _ (by omega), Int.toNat_natCast]
      · rw [Nat.testBit_div_two_pow]
    · refine Ev.step (fun k => ?_) (next (Vector.setIfInBounds l i false) (fin _ ?_))
      · rw [ref03_Right_h0_q, bif_pos (by omega), h5, decide_eq_false (p := (N : Int) < ((256 - i : Nat) : Int)) (by omega)]
        simp only [eqb, cond_false]
        rw [if_pos (by omega), w64_id (by omega) (by omega), Int.toNat_natCast]
      · rw [Nat.testBit_div_two_pow, uV_high _ _ (by omega)]
  · intro l hv
    refine Ev.done fun k => ?_
    show ref03_Right_h0 (k + 1) _ _ _ _ _ = _
    rw [ref03_Right_h0_q, bif_neg (by omega)]
    refine congrArg some (u_bit_ext fun i hi => ?_)
    rw [uW_bit, uW_bit, bV_bit, hv i hi]
theorem ref03_Right_spec (a : Vector UInt64 4) (n : Int) (h : -9223372036854775808 ≤ n ∧ n < 9223372036854775808) : ∃ k, ref03_Right k a n = some (uW (uV a / 2 ^ n.toNat)) := by
  show Ev (fun k => ref03_Right k a n) _
  refine Ev.same (fun k => ref03_Right_q k a n) ?_
  by_cases c0 : n < 0
  · refine Ev.same (fun k => bif_pos c0) ?_
    rw [show n.toNat = 0 by omega]
    exact ref03_Right_loop a 0 (by omega)
  · refine Ev.same (fun k => bif_neg c0) ?_
    obtain ⟨N, rfl⟩ : ∃ N : Nat, n = (N : Int) := ⟨n.toNat, by omega⟩
    rw [Int.toNat_natCast]
    exact ref03_Right_loop a N (by omega)

end
end Go.Proofs.Ytepcjobghbanmaa.M

namespace Go.Proofs.Ytepcjobghbanmaa.M
open Go
noncomputable section
set_option maxRecDepth 100000
noncomputable def ref03_Bits_T : Tbl := []
noncomputable def ref03_Bits_C : CfgW := mkC Try.prog noG ref03_Bits_T 29 0 false
def ref03_Bits_lv : Nat → List Nat := fun i => bif Nat.beq i 2 then [1, 2, 3, 4, 5, 6] else bif Nat.beq i 0 then [1, 2, 3, 4] else []
noncomputable abbrev ref03_Bits_b : Code := Try.f54.body.getD .skip
noncomputable abbrev ref03_Bits_r : List ResultVar := Try.f54.results.toList
def ref03_Bits_hs : List Nat := []

def ref03_Bits_enc (r : Vector Bool 256) : CallOut := ⟨.pv (.arr .b 256 r), [], true, []⟩
def ref03_Bits_s0 (i : Int) (a : Vector UInt64 4) (t2 : Vector Bool 256) (l : Vector Bool 256) : St := ⟨[(1, .p 60000 []), (2, .p 60001 []), (3, .p 60002 []), (4, .pv (.sc .i i))], [(60000, .box (.pv (.arr .u64 4 a))), (60001, .box (.pv (.arr .b 256 t2))), (60002, .box (.pv (.arr .b 256 l)))]⟩
def ref03_Bits_s2 (i : Int) (n : UInt64) (k_ : Int) (a : Vector UInt64 4) (t2 : Vector Bool 256) (l : Vector Bool 256) : St := ⟨[(1, .p 60000 []), (2, .p 60001 []), (3, .p 60002 []), (4, .pv (.sc .i i)), (5, .pv (.sc .u64 n)), (6, .pv (.sc .i k_))], [(60000, .box (.pv (.arr .u64 4 a))), (60001, .box (.pv (.arr .b 256 t2))), (60002, .box (.pv (.arr .b 256 l)))]⟩
theorem ref03_Bits_g0 (i : Int) (a : Vector UInt64 4) (t2 : Vector Bool 256) (l : Vector Bool 256) (Q : CallOut → Prop) : headRound ref03_Bits_C ref03_Bits_lv [true, true, false, true, false] ref03_Bits_b (ref03_Bits_s0 i a t2 l) (fnK ref03_Bits_C ref03_Bits_r ref03_Bits_hs Q) =
    (condP (decide (i < (256 : Int))) (((64 : Int) ≠ (0 : Int)) ∧ ((((0 : Int) ≤ (w64 (Int.tdiv i (64 : Int)))) ∧ ((w64 (Int.tdiv i (64 : Int))) < (4 : Int))) ∧ (headP ref03_Bits_C ref03_Bits_lv [true, true, false, true, false, false, true, false, false, true, false, true, false] ref03_Bits_b (ref03_Bits_s2 i (List.getD (Vector.toList a) (Int.toNat (w64 (Int.tdiv i (64 : Int)))) (0 : UInt64)) (0 : Int) a t2 l) (fnK ref03_Bits_C ref03_Bits_r ref03_Bits_hs Q)))) (Q (ref03_Bits_enc l))) := by kernel_rfl
theorem ref03_Bits_g2 (i : Int) (n : UInt64) (k_ : Int) (a : Vector UInt64 4) (t2 : Vector Bool 256) (l : Vector Bool 256) (Q : CallOut → Prop) : headRound ref03_Bits_C ref03_Bits_lv [true, true, false, true, false, false, true, false, false, true, false, true, false] ref03_Bits_b (ref03_Bits_s2 i n k_ a t2 l) (fnK ref03_Bits_C ref03_Bits_r ref03_Bits_hs Q) =
    (((64 : Int) ≠ (0 : Int)) ∧ (condP (decide (k_ < (Int.tmod i (64 : Int)))) (((2 : UInt64) ≠ (0 : UInt64)) ∧ (headP ref03_Bits_C ref03_Bits_lv [true, true, false, true, false, false, true, false, false, true, false, true, false] ref03_Bits_b (ref03_Bits_s2 i (n / (2 : UInt64)) (w64 (k_ + (1 : Int))) a t2 l) (fnK ref03_Bits_C ref03_Bits_r ref03_Bits_hs Q))) (((2 : UInt64) ≠ (0 : UInt64)) ∧ ((((0 : Int) ≤ i) ∧ (i < (256 : Int))) ∧ (headP ref03_Bits_C ref03_Bits_lv [true, true, false, true, false] ref03_Bits_b (ref03_Bits_s0 (w64 (i + (1 : Int))) a t2 (Vector.setIfInBounds l (Int.toNat i) (decide ((n % (2 : UInt64)) = (1 : UInt64))))) (fnK ref03_Bits_C ref03_Bits_r ref03_Bits_hs Q)))))) := by kernel_rfl
theorem ref03_Bits_k0 {r : Vector Bool 256} {Q : CallOut → Prop} (hQ : Q (ref03_Bits_enc r)) : ∀ k : Nat, (∀ (i : Int) (a : Vector UInt64 4) (t2 : Vector Bool 256) (l : Vector Bool 256), ref03_Bits_h0 k i a t2 l = some r → headP ref03_Bits_C ref03_Bits_lv [true, true, false, true, false] ref03_Bits_b (ref03_Bits_s0 i a t2 l) (fnK ref03_Bits_C ref03_Bits_r ref03_Bits_hs Q)) ∧ (∀ (i : Int) (n : UInt64) (k_ : Int) (a : Vector UInt64 4) (t2 : Vector Bool 256) (l : Vector Bool 256), ref03_Bits_h2 k i n k_ a t2 l = some r → headP ref03_Bits_C ref03_Bits_lv [true, true, false, true, false, false, true, false, false, true, false, true, false] ref03_Bits_b (ref03_Bits_s2 i n k_ a t2 l) (fnK ref03_Bits_C ref03_Bits_r ref03_Bits_hs Q))
  | 0 => ⟨fun _ _ _ _ h => no_ok h, fun _ _ _ _ _ _ h => no_ok h⟩
  | k + 1 => ⟨fun i a t2 l h => headP_step (Eq.mpr (ref03_Bits_g0 i a t2 l Q) (have h := (ref03_Bits_h0_q k i a t2 l).symm.trans h; cond_ok h (fun h => ⟨by decide +kernel, ite_ok h fun hc0 h => (ref03_Bits_k0 hQ k).2 _ _ _ _ _ _ h⟩) (fun h => ret_ok (Q := Q) (e := ref03_Bits_enc) h hQ))),
    fun i n k_ a t2 l h => headP_step (Eq.mpr (ref03_Bits_g2 i n k_ a t2 l Q) (have h := (ref03_Bits_h2_q k i n k_ a t2 l).symm.trans h; ⟨by decide +kernel, cond_ok h (fun h => ⟨by decide +kernel, (ref03_Bits_k0 hQ k).2 _ _ _ _ _ _ h⟩) (fun h => ⟨by decide +kernel, ite_ok h fun hc0 h => (ref03_Bits_k0 hQ k).1 _ _ _ _ h⟩)⟩))⟩
theorem ref03_Bits_e (a : Vector UInt64 4) (Q : CallOut → Prop) : evalFnP ref03_Bits_C ref03_Bits_lv ref03_Bits_r ref03_Bits_hs ref03_Bits_b [.pv (.arr .u64 4 a)] [] Q =
    (headP ref03_Bits_C ref03_Bits_lv [true, true, false, true, false] ref03_Bits_b (ref03_Bits_s0 (0 : Int) a (Vector.replicate (256 : Nat) false) (Vector.replicate (256 : Nat) false)) (fnK ref03_Bits_C ref03_Bits_r ref03_Bits_hs Q)) := by kernel_rfl
theorem ref03_Bits_w {k : Nat} (a : Vector UInt64 4) {r} {Q : CallOut → Prop} (h : ref03_Bits k a = some r) (hQ : Q (ref03_Bits_enc r)) : evalFnP ref03_Bits_C ref03_Bits_lv ref03_Bits_r ref03_Bits_hs ref03_Bits_b [.pv (.arr .u64 4 a)] [] Q :=
  Eq.mpr (ref03_Bits_e a Q) (have h := (ref03_Bits_q k a).symm.trans h; (ref03_Bits_k0 hQ _).1 _ _ _ _ h)
def ref03_Bits_c : Ans
  | [.pv (.arr .u64 4 a)], [] => some (none, ref03_Bits_enc (bitsV (uV a)))
  | _, _ => none
theorem ref03_Bits_tok : TblOK Try.prog noG ref03_Bits_T := .nil
theorem ref03_Bits_ok : FnOK Try.prog noG 54 (unW ref03_Bits_c) := by
  refine FnOK.ofC (T := ref03_Bits_T) (nt := 29) (np := 0) (nf := false) (hs := ref03_Bits_hs) (fn := Try.f54) (body := ref03_Bits_b) ref03_Bits_tok (by kernel_rfl) (by kernel_rfl) (by kernel_rfl) (by kernel_rfl) (c := ref03_Bits_c) (lv := ref03_Bits_lv) ?_
  intro xs mem p out h hp
  unfold ref03_Bits_c at h
  split at h
  · cases h
    obtain ⟨k, hk⟩ := ref03_Bits_spec _
    exact ref03_Bits_w _ hk rfl
  · cases h
end
end Go.Proofs.Ytepcjobghbanmaa.M

namespace Go.Proofs.Ytepcjobghbanmaa.M
open Go
noncomputable section
set_option maxRecDepth 100000
noncomputable def ref03_Number_T : Tbl := []
noncomputable def ref03_Number_C : CfgW := mkC Try.prog noG ref03_Number_T 29 0 false
def ref03_Number_lv : Nat → List Nat := fun i => bif Nat.beq i 0 then [1, 2, 3, 4] else []
noncomputable abbrev ref03_Number_b : Code := Try.f55.body.getD .skip
noncomputable abbrev ref03_Number_r : List ResultVar := Try.f55.results.toList
def ref03_Number_hs : List Nat := []

def ref03_Number_enc (r : Vector UInt64 4) : CallOut := ⟨.pv (.arr .u64 4 r), [], true, []⟩
def ref03_Number_s0 (i : Int) (l : Vector Bool 256) (t2 : Vector UInt64 4) (a : Vector UInt64 4) : St := ⟨[(1, .p 60000 []), (2, .p 60001 []), (3, .p 60002 []), (4, .pv (.sc .i i))], [(60000, .box (.pv (.arr .b 256 l))), (60001, .box (.pv (.arr .u64 4 t2))), (60002, .box (.pv (.arr .u64 4 a)))]⟩
theorem ref03_Number_g0 (i : Int) (l : Vector Bool 256) (t2 : Vector UInt64 4) (a : Vector UInt64 4) (Q : CallOut → Prop) : headRound ref03_Number_C ref03_Number_lv [true, true, false, true, false] ref03_Number_b (ref03_Number_s0 i l t2 a) (fnK ref03_Number_C ref03_Number_r ref03_Number_hs Q) =
    (condP (decide ((0 : Int) ≤ i)) (((64 : Int) ≠ (0 : Int)) ∧ (((64 : Int) ≠ (0 : Int)) ∧ ((((0 : Int) ≤ (w64 (Int.tdiv i (64 : Int)))) ∧ ((w64 (Int.tdiv i (64 : Int))) < (4 : Int))) ∧ ((((0 : Int) ≤ (w64 (Int.tdiv i (64 : Int)))) ∧ ((w64 (Int.tdiv i (64 : Int))) < (4 : Int))) ∧ ((((0 : Int) ≤ i) ∧ (i < (256 : Int))) ∧ (condP (List.getD (Vector.toList l) (Int.toNat i) false) (((64 : Int) ≠ (0 : Int)) ∧ (((64 : Int) ≠ (0 : Int)) ∧ ((((0 : Int) ≤ (w64 (Int.tdiv i (64 : Int)))) ∧ ((w64 (Int.tdiv i (64 : Int))) < (4 : Int))) ∧ ((((0 : Int) ≤ (w64 (Int.tdiv i (64 : Int)))) ∧ ((w64 (Int.tdiv i (64 : Int))) < (4 : Int))) ∧ (headP ref03_Number_C ref03_Number_lv [true, true, false, true, false] ref03_Number_b (ref03_Number_s0 (w64 (i - (1 : Int))) l t2 (Vector.setIfInBounds (Vector.setIfInBounds a (Int.toNat (w64 (Int.tdiv i (64 : Int)))) ((2 : UInt64) * (List.getD (Vector.toList a) (Int.toNat (w64 (Int.tdiv i (64 : Int)))) (0 : UInt64)))) (Int.toNat (w64 (Int.tdiv i (64 : Int)))) ((List.getD (Vector.toList (Vector.setIfInBounds a (Int.toNat (w64 (Int.tdiv i (64 : Int)))) ((2 : UInt64) * (List.getD (Vector.toList a) (Int.toNat (w64 (Int.tdiv i (64 : Int)))) (0 : UInt64))))) (Int.toNat (w64 (Int.tdiv i (64 : Int)))) (0 : UInt64)) + (1 : UInt64)))) (fnK ref03_Number_C ref03_Number_r ref03_Number_hs Q)))))) (headP ref03_Number_C ref03_Number_lv [true, true, false, true, false] ref03_Number_b (ref03_Number_s0 (w64 (i - (1 : Int))) l t2 (Vector.setIfInBounds a (Int.toNat (w64 (Int.tdiv i (64 : Int)))) ((2 : UInt64) * (List.getD (Vector.toList a) (Int.toNat (w64 (Int.tdiv i (64 : Int)))) (0 : UInt64))))) (fnK ref03_Number_C ref03_Number_r ref03_Number_hs Q)))))))) (Q (ref03_Number_enc a))) := by kernel_rfl
theorem ref03_Number_k0 {r : Vector UInt64 4} {Q : CallOut → Prop} (hQ : Q (ref03_Number_enc r)) : ∀ k : Nat, (∀ (i : Int) (l : Vector Bool 256) (t2 : Vector UInt64 4) (a : Vector UInt64 4), ref03_Number_h0 k i l t2 a = some r → headP ref03_Number_C ref03_Number_lv [true, true, false, true, false] ref03_Number_b (ref03_Number_s0 i l t2 a) (fnK ref03_Number_C ref03_Number_r ref03_Number_hs Q))
  | 0 => fun _ _ _ _ h => no_ok h
  | k + 1 => fun i l t2 a h => headP_step (Eq.mpr (ref03_Number_g0 i l t2 a Q) (have h := (ref03_Number_h0_q k i l t2 a).symm.trans h; cond_ok h (fun h => ⟨by decide +kernel, ⟨by decide +kernel, ite_ok h fun hc0 h => ⟨hc0, ite_ok h fun hc1 h => cond_ok h (fun h => ⟨by decide +kernel, ⟨by decide +kernel, ⟨hc0, ⟨hc0, (ref03_Number_k0 hQ k) _ _ _ _ h⟩⟩⟩⟩) (fun h => (ref03_Number_k0 hQ k) _ _ _ _ h)⟩⟩⟩) (fun h => ret_ok (Q := Q) (e := ref03_Number_enc) h hQ)))
theorem ref03_Number_e (l : Vector Bool 256) (Q : CallOut → Prop) : evalFnP ref03_Number_C ref03_Number_lv ref03_Number_r ref03_Number_hs ref03_Number_b [.pv (.arr .b 256 l)] [] Q =
    (headP ref03_Number_C ref03_Number_lv [true, true, false, true, false] ref03_Number_b (ref03_Number_s0 (255 : Int) l (Vector.replicate (4 : Nat) (0 : UInt64)) (Vector.replicate (4 : Nat) (0 : UInt64))) (fnK ref03_Number_C ref03_Number_r ref03_Number_hs Q)) := by kernel_rfl
theorem ref03_Number_w {k : Nat} (l : Vector Bool 256) {r} {Q : CallOut → Prop} (h : ref03_Number k l = some r) (hQ : Q (ref03_Number_enc r)) : evalFnP ref03_Number_C ref03_Number_lv ref03_Number_r ref03_Number_hs ref03_Number_b [.pv (.arr .b 256 l)] [] Q :=
  Eq.mpr (ref03_Number_e l Q) (have h := (ref03_Number_q k l).symm.trans h; (ref03_Number_k0 hQ _) _ _ _ _ h)
def ref03_Number_c : Ans
  | [.pv (.arr .b 256 l)], [] => some (none, ref03_Number_enc (uW (bV l)))
  | _, _ => none
theorem ref03_Number_tok : TblOK Try.prog noG ref03_Number_T := .nil
theorem ref03_Number_ok : FnOK Try.prog noG 55 (unW ref03_Number_c) := by
  refine FnOK.ofC (T := ref03_Number_T) (nt := 29) (np := 0) (nf := false) (hs := ref03_Number_hs) (fn := Try.f55) (body := ref03_Number_b) ref03_Number_tok (by kernel_rfl) (by kernel_rfl) (by kernel_rfl) (by kernel_rfl) (c := ref03_Number_c) (lv := ref03_Number_lv) ?_
  intro xs mem p out h hp
  unfold ref03_Number_c at h
  split at h
  · cases h
    obtain ⟨k, hk⟩ := ref03_Number_spec _
    exact ref03_Number_w _ hk rfl
  · cases h
end
end Go.Proofs.Ytepcjobghbanmaa.M

namespace Go.Proofs.Ytepcjobghbanmaa.M
open Go
noncomputable section
set_option maxRecDepth 100000
noncomputable def ref03_Left_T : Tbl := [(54, [], ref03_Bits_c), (55, [], ref03_Number_c)]
noncomputable def ref03_Left_C : CfgW := mkC Try.prog noG ref03_Left_T 32 0 false
def ref03_Left_lv : Nat → List Nat := fun i => bif Nat.beq i 0 then [1, 4, 5, 6, 7] else []
noncomputable abbrev ref03_Left_b : Code := Try.f25.body.getD .skip
noncomputable abbrev ref03_Left_r : List ResultVar := Try.f25.results.toList
def ref03_Left_hs : List Nat := []

def ref03_Left_enc (r : Vector UInt64 4) : CallOut := ⟨.pv (.arr .u64 4 r), [], true, []⟩
def ref03_Left_s0 (n : Int) (i : Int) (t4 : Vector UInt64 4) (x_ : Vector Bool 256) (l : Vector Bool 256) : St := ⟨[(1, .pv (.sc .i n)), (4, .p 60000 []), (5, .p 60001 []), (6, .p 60002 []), (7, .pv (.sc .i i))], [(60000, .box (.pv (.arr .u64 4 t4))), (60001, .box (.pv (.arr .b 256 x_))), (60002, .box (.pv (.arr .b 256 l)))]⟩
theorem ref03_Left_g0 (n : Int) (i : Int) (t4 : Vector UInt64 4) (x_ : Vector Bool 256) (l : Vector Bool 256) (Q : CallOut → Prop) : headRound ref03_Left_C ref03_Left_lv [true, true, true, true, false, true, false] ref03_Left_b (ref03_Left_s0 n i t4 x_ l) (fnK ref03_Left_C ref03_Left_r ref03_Left_hs Q) =
    (condP (decide (i < (256 : Int))) (condP (eqb (decide (n ≤ i)) true) ((((0 : Int) ≤ (w64 (i - (bif true then (if (i < n) then i else n) else (if (i > n) then i else n))))) ∧ ((w64 (i - (bif true then (if (i < n) then i else n) else (if (i > n) then i else n)))) < (256 : Int))) ∧ ((((0 : Int) ≤ i) ∧ (i < (256 : Int))) ∧ (headP ref03_Left_C ref03_Left_lv [true, true, true, true, false, true, false] ref03_Left_b (ref03_Left_s0 n (w64 (i + (1 : Int))) t4 x_ (Vector.setIfInBounds l (Int.toNat i) (bif true then (List.getD (Vector.toList x_) (Int.toNat (w64 (i - (bif true then (if (i < n) then i else n) else (if (i > n) then i else n))))) false) else false))) (fnK ref03_Left_C ref03_Left_r ref03_Left_hs Q)))) ((((0 : Int) ≤ i) ∧ (i < (256 : Int))) ∧ (headP ref03_Left_C ref03_Left_lv [true, true, true, true, false, true, false] ref03_Left_b (ref03_Left_s0 n (w64 (i + (1 : Int))) t4 x_ (Vector.setIfInBounds l (Int.toNat i) false)) (fnK ref03_Left_C ref03_Left_r ref03_Left_hs Q)))) (Q (ref03_Left_enc (uW (bV l))))) := by kernel_rfl
theorem ref03_Left_k0 {r : Vector UInt64 4} {Q : CallOut → Prop} (hQ : Q (ref03_Left_enc r)) : ∀ k : Nat, (∀ (n : Int) (i : Int) (t4 : Vector UInt64 4) (x_ : Vector Bool 256) (l : Vector Bool 256), ref03_Left_h0 k n i t4 x_ l = some r → headP ref03_Left_C ref03_Left_lv [true, true, true, true, false, true, false] ref03_Left_b (ref03_Left_s0 n i t4 x_ l) (fnK ref03_Left_C ref03_Left_r ref03_Left_hs Q))
  | 0 => fun _ _ _ _ _ h => no_ok h
  | k + 1 => fun n i t4 x_ l h => headP_step (Eq.mpr (ref03_Left_g0 n i t4 x_ l Q) (have h := (ref03_Left_h0_q k n i t4 x_ l).symm.trans h; cond_ok h (fun h => cond_ok h (fun h => ite_ok h fun hc0 h => ite_ok h fun hc1 h => (ref03_Left_k0 hQ k) _ _ _ _ _ h) (fun h => ite_ok h fun hc0 h => (ref03_Left_k0 hQ k) _ _ _ _ _ h)) (fun h => ret_ok (Q := Q) (e := ref03_Left_enc) h hQ)))
theorem ref03_Left_e (a : Vector UInt64 4) (n : Int) (Q : CallOut → Prop) : evalFnP ref03_Left_C ref03_Left_lv ref03_Left_r ref03_Left_hs ref03_Left_b [.pv (.arr .u64 4 a), .pv (.sc .i n)] [] Q =
    (condP (decide (n < (0 : Int))) (headP ref03_Left_C ref03_Left_lv [true, true, true, true, false, true, false] ref03_Left_b (ref03_Left_s0 (0 : Int) (0 : Int) (Vector.replicate (4 : Nat) (0 : UInt64)) (bitsV (uV a)) (Vector.replicate (256 : Nat) false)) (fnK ref03_Left_C ref03_Left_r ref03_Left_hs Q)) (headP ref03_Left_C ref03_Left_lv [true, true, true, true, false, true, false] ref03_Left_b (ref03_Left_s0 n (0 : Int) (Vector.replicate (4 : Nat) (0 : UInt64)) (bitsV (uV a)) (Vector.replicate (256 : Nat) false)) (fnK ref03_Left_C ref03_Left_r ref03_Left_hs Q))) := by kernel_rfl
theorem ref03_Left_w {k : Nat} (a : Vector UInt64 4) (n : Int) {r} {Q : CallOut → Prop} (h : ref03_Left k a n = some r) (hQ : Q (ref03_Left_enc r)) : evalFnP ref03_Left_C ref03_Left_lv ref03_Left_r ref03_Left_hs ref03_Left_b [.pv (.arr .u64 4 a), .pv (.sc .i n)] [] Q :=
  Eq.mpr (ref03_Left_e a n Q) (have h := (ref03_Left_q k a n).symm.trans h; cond_ok h (fun h => (ref03_Left_k0 hQ _) _ _ _ _ _ h) (fun h => (ref03_Left_k0 hQ _) _ _ _ _ _ h))
def ref03_Left_c : Ans
  | [.pv (.arr .u64 4 a), .pv (.sc .i n)], [] => some (some (-9223372036854775808 ≤ n ∧ n < 9223372036854775808), ref03_Left_enc (uW (uV a * 2 ^ n.toNat)))
  | _, _ => none
theorem ref03_Left_tok : TblOK Try.prog noG ref03_Left_T := .cons ⟨by kernel_rfl, ref03_Bits_ok⟩ (.cons ⟨by kernel_rfl, ref03_Number_ok⟩ (.nil))
theorem ref03_Left_ok : FnOK Try.prog noG 25 (unW ref03_Left_c) := by
  refine FnOK.ofC (T := ref03_Left_T) (nt := 32) (np := 0) (nf := false) (hs := ref03_Left_hs) (fn := Try.f25) (body := ref03_Left_b) ref03_Left_tok (by kernel_rfl) (by kernel_rfl) (by kernel_rfl) (by kernel_rfl) (c := ref03_Left_c) (lv := ref03_Left_lv) ?_
  intro xs mem p out h hp
  unfold ref03_Left_c at h
  split at h
  · cases h
    obtain ⟨k, hk⟩ := ref03_Left_spec _ _ hp
    exact ref03_Left_w _ _ hk rfl
  · cases h
end
end Go.Proofs.Ytepcjobghbanmaa.M

namespace Go.Proofs.Ytepcjobghbanmaa.M
open Go
noncomputable section
set_option maxRecDepth 100000
noncomputable def ref03_Right_T : Tbl := [(54, [], ref03_Bits_c), (55, [], ref03_Number_c)]
noncomputable def ref03_Right_C : CfgW := mkC Try.prog noG ref03_Right_T 34 0 false
def ref03_Right_lv : Nat → List Nat := fun i => bif Nat.beq i 0 then [1, 4, 5, 6, 7] else []
noncomputable abbrev ref03_Right_b : Code := Try.f27.body.getD .skip
noncomputable abbrev ref03_Right_r : List ResultVar := Try.f27.results.toList
def ref03_Right_hs : List Nat := []

def ref03_Right_enc (r : Vector UInt64 4) : CallOut := ⟨.pv (.arr .u64 4 r), [], true, []⟩
def ref03_Right_s0 (n : Int) (i : Int) (t4 : Vector UInt64 4) (x_ : Vector Bool 256) (l : Vector Bool 256) : St := ⟨[(1, .pv (.sc .i n)), (4, .p 60000 []), (5, .p 60001 []), (6, .p 60002 []), (7, .pv (.sc .i i))], [(60000, .box (.pv (.arr .u64 4 t4))), (60001, .box (.pv (.arr .b 256 x_))), (60002, .box (.pv (.arr .b 256 l)))]⟩
theorem ref03_Right_g0 (n : Int) (i : Int) (t4 : Vector UInt64 4) (x_ : Vector Bool 256) (l : Vector Bool 256) (Q : CallOut → Prop) : headRound ref03_Right_C ref03_Right_lv [true, true, true, true, false, true, false] ref03_Right_b (ref03_Right_s0 n i t4 x_ l) (fnK ref03_Right_C ref03_Right_r ref03_Right_hs Q) =
    (condP (decide (i < (256 : Int))) (condP (eqb (decide (n < (w64 ((256 : Int) - i)))) true) ((((0 : Int) ≤ (w64 (i + (bif true then (if ((w64 ((255 : Int) - i)) < n) then (w64 ((255 : Int) - i)) else n) else (if ((w64 ((255 : Int) - i)) > n) then (w64 ((255 : Int) - i)) else n))))) ∧ ((w64 (i + (bif true then (if ((w64 ((255 : Int) - i)) < n) then (w64 ((255 : Int) - i)) else n) else (if ((w64 ((255 : Int) - i)) > n) then (w64 ((255 : Int) - i)) else n)))) < (256 : Int))) ∧ ((((0 : Int) ≤ i) ∧ (i < (256 : Int))) ∧ (headP ref03_Right_C ref03_Right_lv [true, true, true, true, false, true, false] ref03_Right_b (ref03_Right_s0 n (w64 (i + (1 : Int))) t4 x_ (Vector.setIfInBounds l (Int.toNat i) (bif true then (List.getD (Vector.toList x_) (Int.toNat (w64 (i + (bif true then (if ((w64 ((255 : Int) - i)) < n) then (w64 ((255 : Int) - i)) else n) else (if ((w64 ((255 : Int) - i)) > n) then (w64 ((255 : Int) - i)) else n))))) false) else false))) (fnK ref03_Right_C ref03_Right_r ref03_Right_hs Q)))) ((((0 : Int) ≤ i) ∧ (i < (256 : Int))) ∧ (headP ref03_Right_C ref03_Right_lv [true, true, true, true, false, true, false] ref03_Right_b (ref03_Right_s0 n (w64 (i + (1 : Int))) t4 x_ (Vector.setIfInBounds l (Int.toNat i) false)) (fnK ref03_Right_C ref03_Right_r ref03_Right_hs Q)))) (Q (ref03_Right_enc (uW (bV l))))) := by kernel_rfl
theorem ref03_Right_k0 {r : Vector UInt64 4} {Q : CallOut → Prop} (hQ : Q (ref03_Right_enc r)) : ∀ k : Nat, (∀ (n : Int) (i : Int) (t4 : Vector UInt64 4) (x_ : Vector Bool 256) (l : Vector Bool 256), ref03_Right_h0 k n i t4 x_ l = some r → headP ref03_Right_C ref03_Right_lv [true, true, true, true, false, true, false] ref03_Right_b (ref03_Right_s0 n i t4 x_ l) (fnK ref03_Right_C ref03_Right_r ref03_Right_hs Q))
  | 0 => fun _ _ _ _ _ h => no_ok h
  | k + 1 => fun n i t4 x_ l h => headP_step (Eq.mpr (ref03_Right_g0 n i t4 x_ l Q) (have h := (ref03_Right_h0_q k n i t4 x_ l).symm.trans h; cond_ok h (fun h => cond_ok h (fun h => ite_ok h fun hc0 h => ite_ok h fun hc1 h => (ref03_Right_k0 hQ k) _ _ _ _ _ h) (fun h => ite_ok h fun hc0 h => (ref03_Right_k0 hQ k) _ _ _ _ _ h)) (fun h => ret_ok (Q := Q) (e := ref03_Right_enc) h hQ)))
theorem ref03_Right_e (a : Vector UInt64 4) (n : Int) (Q : CallOut → Prop) : evalFnP ref03_Right_C ref03_Right_lv ref03_Right_r ref03_Right_hs ref03_Right_b [.pv (.arr .u64 4 a), .pv (.sc .i n)] [] Q =
    (condP (decide (n < (0 : Int))) (headP ref03_Right_C ref03_Right_lv [true, true, true, true, false, true, false] ref03_Right_b (ref03_Right_s0 (0 : Int) (0 : Int) (Vector.replicate (4 : Nat) (0 : UInt64)) (bitsV (uV a)) (Vector.replicate (256 : Nat) false)) (fnK ref03_Right_C ref03_Right_r ref03_Right_hs Q)) (headP ref03_Right_C ref03_Right_lv [true, true, true, true, false, true, false] ref03_Right_b (ref03_Right_s0 n (0 : Int) (Vector.replicate (4 : Nat) (0 : UInt64)) (bitsV (uV a)) (Vector.replicate (256 : Nat) false)) (fnK ref03_Right_C ref03_Right_r ref03_Right_hs Q))) := by kernel_rfl
theorem ref03_Right_w {k : Nat} (a : Vector UInt64 4) (n : Int) {r} {Q : CallOut → Prop} (h : ref03_Right k a n = some r) (hQ : Q (ref03_Right_enc r)) : evalFnP ref03_Right_C ref03_Right_lv ref03_Right_r ref03_Right_hs ref03_Right_b [.pv (.arr .u64 4 a), .pv (.sc .i n)] [] Q :=
  Eq.mpr (ref03_Right_e a n Q) (have h := (ref03_Right_q k a n).symm.trans h; cond_ok h (fun h => (ref03_Right_k0 hQ _) _ _ _ _ _ h) (fun h => (ref03_Right_k0 hQ _) _ _ _ _ _ h))
def ref03_Right_c : Ans
  | [.pv (.arr .u64 4 a), .pv (.sc .i n)], [] => some (some (-9223372036854775808 ≤ n ∧ n < 9223372036854775808), ref03_Right_enc (uW (uV a / 2 ^ n.toNat)))
  | _, _ => none
theorem ref03_Right_tok : TblOK Try.prog noG ref03_Right_T := .cons ⟨by kernel_rfl, ref03_Bits_ok⟩ (.cons ⟨by kernel_rfl, ref03_Number_ok⟩ (.nil))
theorem ref03_Right_ok : FnOK Try.prog noG 27 (unW ref03_Right_c) := by
  refine FnOK.ofC (T := ref03_Right_T) (nt := 34) (np := 0) (nf := false) (hs := ref03_Right_hs) (fn := Try.f27) (body := ref03_Right_b) ref03_Right_tok (by kernel_rfl) (by kernel_rfl) (by kernel_rfl) (by kernel_rfl) (c := ref03_Right_c) (lv := ref03_Right_lv) ?_
  intro xs mem p out h hp
  unfold ref03_Right_c at h
  split at h
  · cases h
    obtain ⟨k, hk⟩ := ref03_Right_spec _ _ hp
    exact ref03_Right_w _ _ hk rfl
  · cases h
end
end Go.Proofs.Ytepcjobghbanmaa.M
