/- Part of the proofs: what functions of the program do: plain functions, and the walks that show it. No condition. -/
import Derived.KernelRfl
import Derived.Test.YtepcjobghbanmaaProg
import Derived.Test.YtepcjobghbanmaaLd
import Derived.Test.YtepcjobghbanmaaSwords
import Derived.Test.YtepcjobghbanmaaSbigS
import Derived.Test.YtepcjobghbanmaaSbigB
set_option linter.unusedVariables false
set_option linter.unusedSimpArgs false
set_option autoImplicit false
namespace Go.Proofs.Ytepcjobghbanmaa.M
open Go
noncomputable section
/-- the loop 0 of moneyer/moneyerref03.OfHash -/
def ref03_OfHash_h0 : Nat → Int → (Vector UInt8 32) → (Vector UInt64 4) → (Vector UInt64 4) → Option (Vector UInt64 4)
  | 0, _, _, _, _ => none
  | k + 1, i, h_, t2, a => bif decide ((0 : Int) ≤ i) then (if ((0 : Int) ≤ (w64 (Int.tdiv i (8 : Int)))) ∧ ((w64 (Int.tdiv i (8 : Int))) < (4 : Int)) then
        if ((0 : Int) ≤ i) ∧ (i < (32 : Int)) then
          ref03_OfHash_h0 k (w64 (i - (1 : Int))) h_ t2 (Vector.setIfInBounds a (Int.toNat (w64 (Int.tdiv i (8 : Int)))) (((256 : UInt64) * (List.getD (Vector.toList a) (Int.toNat (w64 (Int.tdiv i (8 : Int)))) (0 : UInt64))) + (UInt8.toUInt64 (List.getD (Vector.toList h_) (Int.toNat i) (0 : UInt8)))))
        else none
      else none)
      else (some a)
theorem ref03_OfHash_h0_q (k : Nat) (i : Int) (h_ : Vector UInt8 32) (t2 : Vector UInt64 4) (a : Vector UInt64 4) : ref03_OfHash_h0 (k + 1) i h_ t2 a =
  (bif decide ((0 : Int) ≤ i) then (if ((0 : Int) ≤ (w64 (Int.tdiv i (8 : Int)))) ∧ ((w64 (Int.tdiv i (8 : Int))) < (4 : Int)) then
        if ((0 : Int) ≤ i) ∧ (i < (32 : Int)) then
          ref03_OfHash_h0 k (w64 (i - (1 : Int))) h_ t2 (Vector.setIfInBounds a (Int.toNat (w64 (Int.tdiv i (8 : Int)))) (((256 : UInt64) * (List.getD (Vector.toList a) (Int.toNat (w64 (Int.tdiv i (8 : Int)))) (0 : UInt64))) + (UInt8.toUInt64 (List.getD (Vector.toList h_) (Int.toNat i) (0 : UInt8)))))
        else none
      else none)
      else (some a)) := by kernel_rfl
/-- moneyer/moneyerref03.OfHash -/
def ref03_OfHash (k : Nat) (h_0 : Vector UInt8 32) : Option (Vector UInt64 4) :=
  ref03_OfHash_h0 k (31 : Int) h_0 (Vector.replicate (4 : Nat) (0 : UInt64)) (Vector.replicate (4 : Nat) (0 : UInt64))
theorem ref03_OfHash_q (k : Nat) (h_0 : Vector UInt8 32) : ref03_OfHash k h_0 = (ref03_OfHash_h0 k (31 : Int) h_0 (Vector.replicate (4 : Nat) (0 : UInt64)) (Vector.replicate (4 : Nat) (0 : UInt64))) := by kernel_rfl
theorem ref03_OfHash_spec0 (h : Vector UInt8 32) : ∃ k, ref03_OfHash k h = some (uW (numU (Vector.toList h))) := by
  show Ev (fun k => ref03_OfHash k h) _
  refine Ev.same (fun k => ref03_OfHash_q k h) ?_
  have := Ev.dwn (H := fun k i a => ref03_OfHash_h0 k i h (Vector.replicate 4 0) a) (n := 32) (r := uW (numU (Vector.toList h)))
    (fun i a => ∀ j t, j < 4 → t < 64 → (gW a j).testBit t = (decide (max i (8 * j) + t / 8 < 8 * j + 8) && (numU (Vector.toList h)).testBit (8 * (max i (8 * j)) + t))) ?_ ?_ 32 (Vector.replicate 4 0) (Nat.le_refl _) ?_
  · exact this
  · intro i a hi hv next
    have ed : Int.tdiv (i : Int) 8 = ((i / 8 : Nat) : Int) := rfl
    refine Ev.step (fun k => ?_) (next (Vector.setIfInBounds a (i / 8) ((256 : UInt64) * List.getD (Vector.toList a) (i / 8) 0 + UInt8.toUInt64 (List.getD (Vector.toList h) i 0))) ?_)
    · rw [ref03_OfHash_h0_q, bif_pos (by omega), ed, w64_nat (by omega), if_pos (by omega), if_pos (by omega), w64_id (by omega) (by omega), Int.toNat_natCast, Int.toNat_natCast]
    · intro j t hj ht
      rw [gW_set _ _ _ _ (by omega)]
      by_cases e : i / 8 = j
      · have hb : (List.getD (Vector.toList h) i 0).toNat < 2 ^ 8 := (List.getD (Vector.toList h) i 0).toNat_lt
        have val : ((256 : UInt64) * List.getD (Vector.toList a) (i / 8) 0 + UInt8.toUInt64 (List.getD (Vector.toList h) i 0)).toNat = (2 ^ 8 * gW a j + (List.getD (Vector.toList h) i 0).toNat) % 2 ^ 64 := by
          rw [UInt64.toNat_add, UInt64.toNat_mul, gW_def, e, UInt8.toNat_toUInt64, show (256 : UInt64).toNat = 256 from rfl]
          omega
        rw [if_pos e, val, Nat.testBit_mod_two_pow, decide_eq_true ht, Bool.true_and, Nat.testBit_two_pow_mul_add _ hb, show max i (8 * j) = i by omega]
        by_cases c : t < 8
        · rw [if_pos c, decide_eq_true (by omega), Bool.true_and, numU_bit]
          rw [show (8 * i + t) / 8 = i by omega, show (8 * i + t) % 8 = t by omega]
        · rw [if_neg c, hv j (t - 8) hj (by omega), show max (i + 1) (8 * j) = i + 1 by omega]
          congr 1
          · rw [decide_eq_decide]; omega
          · congr 1; omega
      · rw [if_neg e, hv j t hj ht]
        by_cases c : i < 8 * j
        · rw [show max (i + 1) (8 * j) = 8 * j by omega, show max i (8 * j) = 8 * j by omega]
        · rw [decide_eq_false (by omega), decide_eq_false (by omega), Bool.false_and, Bool.false_and]
  · intro a hv
    refine Ev.done fun k => ?_
    show ref03_OfHash_h0 (k + 1) _ _ _ _ = _
    rw [ref03_OfHash_h0_q, bif_neg (by omega)]
    refine congrArg some (vecI fun j t hj ht => ?_)
    rw [hv j t hj ht, decide_eq_true (by omega), Bool.true_and, show max 0 (8 * j) = 8 * j by omega]
    congr 1; omega
  · intro j t hj ht
    rw [gW_rep, decide_eq_false (by omega), Bool.false_and, Nat.zero_testBit]

theorem ref03_OfHash_spec (h : Vector UInt8 32) : ∃ k, ref03_OfHash k h = some (hashU h) := by
  rw [hashU_eq]
  exact ref03_OfHash_spec0 h

end
end Go.Proofs.Ytepcjobghbanmaa.M

namespace Go.Proofs.Ytepcjobghbanmaa.M
open Go
noncomputable section
/-- moneyer/moneyerref03.Of -/
def ref03_Of (n : UInt64) : Vector UInt64 4 :=
  (Vector.setIfInBounds (Vector.replicate (4 : Nat) (0 : UInt64)) (0 : Nat) n)
theorem ref03_Of_q (n : UInt64) : ref03_Of n = ((Vector.setIfInBounds (Vector.replicate (4 : Nat) (0 : UInt64)) (0 : Nat) n)) := by kernel_rfl
theorem ref03_Of_spec (n : UInt64) : ref03_Of n = uW n.toNat := by
  have hn := n.toNat_lt
  refine w_ext fun q hq => ?_
  rw [uW_get _ _ hq]
  unfold ref03_Of gW
  rw [vget_set _ _ _ _ _ (by omega), vget_rep]
  have : q = 0 ∨ q = 1 ∨ q = 2 ∨ q = 3 := by omega
  rcases this with h | h | h | h <;> subst h <;> simp <;> omega

end
end Go.Proofs.Ytepcjobghbanmaa.M

namespace Go.Proofs.Ytepcjobghbanmaa.M
open Go
noncomputable section
/-- the loop 0 of moneyer/moneyerref03.ToHash -/
def ref03_ToHash_h0 : Nat → Int → (Vector UInt64 4) → (Vector UInt8 32) → (Vector UInt8 32) → Option (Vector UInt8 32)
  | 0, _, _, _, _ => none
  | k + 1, i, a, t2, h_ => bif decide (i < (32 : Int)) then (if ((0 : Int) ≤ (w64 (Int.tdiv i (8 : Int)))) ∧ ((w64 (Int.tdiv i (8 : Int))) < (4 : Int)) then
        if ((0 : Int) ≤ i) ∧ (i < (32 : Int)) then
          ref03_ToHash_h0 k (w64 (i + (1 : Int))) (Vector.setIfInBounds a (Int.toNat (w64 (Int.tdiv i (8 : Int)))) ((List.getD (Vector.toList a) (Int.toNat (w64 (Int.tdiv i (8 : Int)))) (0 : UInt64)) / (256 : UInt64))) t2 (Vector.setIfInBounds h_ (Int.toNat i) (UInt64.toUInt8 ((List.getD (Vector.toList a) (Int.toNat (w64 (Int.tdiv i (8 : Int)))) (0 : UInt64)) % (256 : UInt64))))
        else none
      else none)
      else (some h_)
theorem ref03_ToHash_h0_q (k : Nat) (i : Int) (a : Vector UInt64 4) (t2 : Vector UInt8 32) (h_ : Vector UInt8 32) : ref03_ToHash_h0 (k + 1) i a t2 h_ =
  (bif decide (i < (32 : Int)) then (if ((0 : Int) ≤ (w64 (Int.tdiv i (8 : Int)))) ∧ ((w64 (Int.tdiv i (8 : Int))) < (4 : Int)) then
        if ((0 : Int) ≤ i) ∧ (i < (32 : Int)) then
          ref03_ToHash_h0 k (w64 (i + (1 : Int))) (Vector.setIfInBounds a (Int.toNat (w64 (Int.tdiv i (8 : Int)))) ((List.getD (Vector.toList a) (Int.toNat (w64 (Int.tdiv i (8 : Int)))) (0 : UInt64)) / (256 : UInt64))) t2 (Vector.setIfInBounds h_ (Int.toNat i) (UInt64.toUInt8 ((List.getD (Vector.toList a) (Int.toNat (w64 (Int.tdiv i (8 : Int)))) (0 : UInt64)) % (256 : UInt64))))
        else none
      else none)
      else (some h_)) := by kernel_rfl
/-- moneyer/moneyerref03.ToHash -/
def ref03_ToHash (k : Nat) (a : Vector UInt64 4) : Option (Vector UInt8 32) :=
  ref03_ToHash_h0 k (0 : Int) a (Vector.replicate (32 : Nat) (0 : UInt8)) (Vector.replicate (32 : Nat) (0 : UInt8))
theorem ref03_ToHash_q (k : Nat) (a : Vector UInt64 4) : ref03_ToHash k a = (ref03_ToHash_h0 k (0 : Int) a (Vector.replicate (32 : Nat) (0 : UInt8)) (Vector.replicate (32 : Nat) (0 : UInt8))) := by kernel_rfl
theorem ref03_ToHash_spec (a : Vector UInt64 4) : ∃ k, ref03_ToHash k a = some (hashV (uV a)) := by
  show Ev (fun k => ref03_ToHash k a) _
  refine Ev.same (fun k => ref03_ToHash_q k a) ?_
  refine Ev.inv (H := fun k i (s : Vector UInt64 4 × Vector UInt8 32) => ref03_ToHash_h0 k i s.1 (Vector.replicate 32 0) s.2) (n := 32)
    (fun i s => (∀ j t, j < 4 → t < 64 → (gW s.1 j).testBit t = (decide (8 * (i - 8 * j) + t < 64) && (uV a).testBit (64 * j + (8 * (i - 8 * j) + t)))) ∧ ∀ j t, j < i → t < 8 → (List.getD (Vector.toList s.2) j 0).toNat.testBit t = (uV a).testBit (8 * j + t)) ?_ ?_ 32 0 (a, _) rfl ?_
  · intro i s hi hv next
    obtain ⟨hv, hw⟩ := hv
    have ed : Int.tdiv (i : Int) 8 = ((i / 8 : Nat) : Int) := rfl
    refine Ev.step (fun k => ?_) (next (Vector.setIfInBounds s.1 (i / 8) (List.getD (Vector.toList s.1) (i / 8) 0 / 256), Vector.setIfInBounds s.2 i (UInt64.toUInt8 (List.getD (Vector.toList s.1) (i / 8) 0 % 256))) ⟨?_, ?_⟩)
    · rw [ref03_ToHash_h0_q, bif_pos (by omega), ed, w64_nat (by omega), if_pos (by omega), if_pos (by omega), w64_id (by omega) (by omega), Int.toNat_natCast, Int.toNat_natCast]
    · intro j t hj ht
      show (gW (Vector.setIfInBounds s.1 (i / 8) _) j).testBit t = _
      rw [gW_set _ _ _ _ (by omega)]
      by_cases e : i / 8 = j
      · rw [if_pos e, UInt64.toNat_div, gW_def, show (256 : UInt64).toNat = 2 ^ 8 from rfl, Nat.testBit_div_two_pow, e]
        by_cases c : t + 8 < 64
        · rw [hv j (t + 8) hj c]
          congr 1
          · rw [decide_eq_decide]; omega
          · congr 1; omega
        · rw [gW_high _ _ _ (by omega), decide_eq_false (by omega), Bool.false_and]
      · rw [if_neg e, hv j t hj ht]
        by_cases c : i < 8 * j
        · rw [show i + 1 - 8 * j = i - 8 * j by omega]
        · rw [decide_eq_false (by omega), decide_eq_false (by omega), Bool.false_and, Bool.false_and]
    · intro j t hj ht
      show (List.getD (Vector.toList (Vector.setIfInBounds s.2 i _)) j 0).toNat.testBit t = _
      rw [vget_set _ _ _ _ _ hi]
      by_cases e : i = j
      · subst e
        rw [if_pos rfl, UInt64.toNat_toUInt8, UInt64.toNat_mod, show (256 : UInt64).toNat = 2 ^ 8 from rfl, Nat.mod_mod, Nat.testBit_mod_two_pow, decide_eq_true ht, Bool.true_and, gW_def, hv _ _ (by omega) (by omega), decide_eq_true (by omega), Bool.true_and]
        congr 1; omega
      · rw [if_neg e]
        exact hw j t (by omega) ht
  · intro s hv
    refine Ev.done fun k => ?_
    show ref03_ToHash_h0 (k + 1) _ _ _ _ = _
    rw [ref03_ToHash_h0_q, bif_neg (by omega)]
    exact congrArg some (hashV_ext hv.2)
  · refine ⟨fun j t hj ht => ?_, fun j t hj ht => by omega⟩
    rw [gW_bit _ _ _ hj ht, decide_eq_true (by omega), Bool.true_and]
    congr 1; omega

end
end Go.Proofs.Ytepcjobghbanmaa.M

namespace Go.Proofs.Ytepcjobghbanmaa.M
open Go
noncomputable section
mutual
/-- the loop 0 of moneyer/moneyerref03.Bits -/
def ref03_Bits_h0 : Nat → Int → (Vector UInt64 4) → (Vector Bool 256) → (Vector Bool 256) → Option (Vector Bool 256)
  | 0, _, _, _, _ => none
  | k + 1, i, a, t2, l => bif decide (i < (256 : Int)) then (if ((0 : Int) ≤ (w64 (Int.tdiv i (64 : Int)))) ∧ ((w64 (Int.tdiv i (64 : Int))) < (4 : Int)) then
        ref03_Bits_h2 k i (List.getD (Vector.toList a) (Int.toNat (w64 (Int.tdiv i (64 : Int)))) (0 : UInt64)) (0 : Int) a t2 l
      else none)
      else (some l)
/-- the loop 2 of moneyer/moneyerref03.Bits -/
def ref03_Bits_h2 : Nat → Int → UInt64 → Int → (Vector UInt64 4) → (Vector Bool 256) → (Vector Bool 256) → Option (Vector Bool 256)
  | 0, _, _, _, _, _, _ => none
  | k + 1, i, n, k_, a, t2, l => bif decide (k_ < (Int.tmod i (64 : Int))) then (ref03_Bits_h2 k i (n / (2 : UInt64)) (w64 (k_ + (1 : Int))) a t2 l)
      else (if ((0 : Int) ≤ i) ∧ (i < (256 : Int)) then
        ref03_Bits_h0 k (w64 (i + (1 : Int))) a t2 (Vector.setIfInBounds l (Int.toNat i) (decide ((n % (2 : UInt64)) = (1 : UInt64))))
      else none)
end
theorem ref03_Bits_h0_q (k : Nat) (i : Int) (a : Vector UInt64 4) (t2 : Vector Bool 256) (l : Vector Bool 256) : ref03_Bits_h0 (k + 1) i a t2 l =
  (bif decide (i < (256 : Int)) then (if ((0 : Int) ≤ (w64 (Int.tdiv i (64 : Int)))) ∧ ((w64 (Int.tdiv i (64 : Int))) < (4 : Int)) then
        ref03_Bits_h2 k i (List.getD (Vector.toList a) (Int.toNat (w64 (Int.tdiv i (64 : Int)))) (0 : UInt64)) (0 : Int) a t2 l
      else none)
      else (some l)) := by kernel_rfl
theorem ref03_Bits_h2_q (k : Nat) (i : Int) (n : UInt64) (k_ : Int) (a : Vector UInt64 4) (t2 : Vector Bool 256) (l : Vector Bool 256) : ref03_Bits_h2 (k + 1) i n k_ a t2 l =
  (bif decide (k_ < (Int.tmod i (64 : Int))) then (ref03_Bits_h2 k i (n / (2 : UInt64)) (w64 (k_ + (1 : Int))) a t2 l)
      else (if ((0 : Int) ≤ i) ∧ (i < (256 : Int)) then
        ref03_Bits_h0 k (w64 (i + (1 : Int))) a t2 (Vector.setIfInBounds l (Int.toNat i) (decide ((n % (2 : UInt64)) = (1 : UInt64))))
      else none)) := by kernel_rfl
/-- moneyer/moneyerref03.Bits -/
def ref03_Bits (k : Nat) (a : Vector UInt64 4) : Option (Vector Bool 256) :=
  ref03_Bits_h0 k (0 : Int) a (Vector.replicate (256 : Nat) false) (Vector.replicate (256 : Nat) false)
theorem ref03_Bits_q (k : Nat) (a : Vector UInt64 4) : ref03_Bits k a = (ref03_Bits_h0 k (0 : Int) a (Vector.replicate (256 : Nat) false) (Vector.replicate (256 : Nat) false)) := by kernel_rfl
theorem ref03_Bits_spec (a : Vector UInt64 4) : ∃ k, ref03_Bits k a = some (bitsV (uV a)) := by
  show Ev (fun k => ref03_Bits k a) _
  refine Ev.same (fun k => ref03_Bits_q k a) ?_
  have inner : ∀ (i : Nat), i < 256 → ∀ (l : Vector Bool 256) (r : Vector Bool 256), Ev (fun f => ref03_Bits_h0 f ((i : Int) + 1) a (Vector.replicate 256 false) (Vector.setIfInBounds l i ((uV a).testBit i))) r →
      Ev (fun f => ref03_Bits_h2 f i (List.getD (Vector.toList a) (i / 64) 0) 0 a (Vector.replicate 256 false) l) r := by
    intro i hi l r e
    have gen : ∀ j k, k + j = i % 64 → ∀ n : UInt64, n.toNat = gW a (i / 64) / 2 ^ k → Ev (fun f => ref03_Bits_h2 f i n ((k : Nat) : Int) a (Vector.replicate 256 false) l) r := by
      have em : Int.tmod (i : Int) 64 = ((i % 64 : Nat) : Int) := rfl
      intro j
      induction j with
      | zero =>
        intro k hk n hn
        refine Ev.step (fun f => ?_) e
        have hb : decide (n % 2 = 1) = (uV a).testBit i := by
          rw [uV_bit a i hi, Nat.testBit_eq_decide_div_mod_eq]
          rw [decide_eq_decide, ← UInt64.toNat_inj, UInt64.toNat_mod, hn]
          rw [show k = i % 64 by omega]
          rfl
        rw [ref03_Bits_h2_q, em, bif_neg (by omega), if_pos (by omega), hb, Int.toNat_natCast, w64_id (by omega) (by omega)]
      | succ j ih =>
        intro k hk n hn
        refine Ev.step (fun f => ?_) (ih (k + 1) (by omega) (n / 2) ?_)
        · rw [ref03_Bits_h2_q, em, bif_pos (by omega), w64_id (by omega) (by omega)]
          rfl
        · rw [UInt64.toNat_div, hn, Nat.pow_succ, ← Nat.div_div_eq_div_mul]
          rfl
    exact gen (i % 64) 0 (by omega) _ (by rw [Nat.pow_zero, Nat.div_one]; rfl)
  refine Ev.up (H := fun k i l => ref03_Bits_h0 k i a (Vector.replicate 256 false) l) (lo := 0) (n := 256) (step := fun i l => Vector.setIfInBounds l i ((uV a).testBit i)) ?_ 256 0 _ (Nat.le_refl 0) rfl ?_
  · intro i l _ hi e
    have ed : Int.tdiv (i : Int) 64 = ((i / 64 : Nat) : Int) := rfl
    refine Ev.step (fun f => ?_) (inner i hi l _ e)
    rw [ref03_Bits_h0_q, bif_pos (by omega), ed, w64_id (by omega) (by omega), if_pos (by omega), Int.toNat_natCast]
  · refine Ev.done fun f => ?_
    rw [ref03_Bits_h0_q, bif_neg (by omega), iterUp_fill (fun i => (uV a).testBit i)]
    rfl

end
end Go.Proofs.Ytepcjobghbanmaa.M

namespace Go.Proofs.Ytepcjobghbanmaa.M
open Go
noncomputable section
/-- the loop 0 of moneyer/moneyerref03.Number -/
def ref03_Number_h0 : Nat → Int → (Vector Bool 256) → (Vector UInt64 4) → (Vector UInt64 4) → Option (Vector UInt64 4)
  | 0, _, _, _, _ => none
  | k + 1, i, l, t2, a => bif decide ((0 : Int) ≤ i) then (if ((0 : Int) ≤ (w64 (Int.tdiv i (64 : Int)))) ∧ ((w64 (Int.tdiv i (64 : Int))) < (4 : Int)) then
        if ((0 : Int) ≤ i) ∧ (i < (256 : Int)) then
          bif List.getD (Vector.toList l) (Int.toNat i) false then (ref03_Number_h0 k (w64 (i - (1 : Int))) l t2 (Vector.setIfInBounds (Vector.setIfInBounds a (Int.toNat (w64 (Int.tdiv i (64 : Int)))) ((2 : UInt64) * (List.getD (Vector.toList a) (Int.toNat (w64 (Int.tdiv i (64 : Int)))) (0 : UInt64)))) (Int.toNat (w64 (Int.tdiv i (64 : Int)))) ((List.getD (Vector.toList (Vector.setIfInBounds a (Int.toNat (w64 (Int.tdiv i (64 : Int)))) ((2 : UInt64) * (List.getD (Vector.toList a) (Int.toNat (w64 (Int.tdiv i (64 : Int)))) (0 : UInt64))))) (Int.toNat (w64 (Int.tdiv i (64 : Int)))) (0 : UInt64)) + (1 : UInt64))))
            else (ref03_Number_h0 k (w64 (i - (1 : Int))) l t2 (Vector.setIfInBounds a (Int.toNat (w64 (Int.tdiv i (64 : Int)))) ((2 : UInt64) * (List.getD (Vector.toList a) (Int.toNat (w64 (Int.tdiv i (64 : Int)))) (0 : UInt64)))))
        else none
      else none)
      else (some a)
theorem ref03_Number_h0_q (k : Nat) (i : Int) (l : Vector Bool 256) (t2 : Vector UInt64 4) (a : Vector UInt64 4) : ref03_Number_h0 (k + 1) i l t2 a =
  (bif decide ((0 : Int) ≤ i) then (if ((0 : Int) ≤ (w64 (Int.tdiv i (64 : Int)))) ∧ ((w64 (Int.tdiv i (64 : Int))) < (4 : Int)) then
        if ((0 : Int) ≤ i) ∧ (i < (256 : Int)) then
          bif List.getD (Vector.toList l) (Int.toNat i) false then (ref03_Number_h0 k (w64 (i - (1 : Int))) l t2 (Vector.setIfInBounds (Vector.setIfInBounds a (Int.toNat (w64 (Int.tdiv i (64 : Int)))) ((2 : UInt64) * (List.getD (Vector.toList a) (Int.toNat (w64 (Int.tdiv i (64 : Int)))) (0 : UInt64)))) (Int.toNat (w64 (Int.tdiv i (64 : Int)))) ((List.getD (Vector.toList (Vector.setIfInBounds a (Int.toNat (w64 (Int.tdiv i (64 : Int)))) ((2 : UInt64) * (List.getD (Vector.toList a) (Int.toNat (w64 (Int.tdiv i (64 : Int)))) (0 : UInt64))))) (Int.toNat (w64 (Int.tdiv i (64 : Int)))) (0 : UInt64)) + (1 : UInt64))))
            else (ref03_Number_h0 k (w64 (i - (1 : Int))) l t2 (Vector.setIfInBounds a (Int.toNat (w64 (Int.tdiv i (64 : Int)))) ((2 : UInt64) * (List.getD (Vector.toList a) (Int.toNat (w64 (Int.tdiv i (64 : Int)))) (0 : UInt64)))))
        else none
      else none)
      else (some a)) := by kernel_rfl
/-- moneyer/moneyerref03.Number -/
def ref03_Number (k : Nat) (l : Vector Bool 256) : Option (Vector UInt64 4) :=
  ref03_Number_h0 k (255 : Int) l (Vector.replicate (4 : Nat) (0 : UInt64)) (Vector.replicate (4 : Nat) (0 : UInt64))
theorem ref03_Number_q (k : Nat) (l : Vector Bool 256) : ref03_Number k l = (ref03_Number_h0 k (255 : Int) l (Vector.replicate (4 : Nat) (0 : UInt64)) (Vector.replicate (4 : Nat) (0 : UInt64))) := by kernel_rfl
theorem ref03_Number_spec (l : Vector Bool 256) : ∃ k, ref03_Number k l = some (uW (bV l)) := by
  show Ev (fun k => ref03_Number k l) _
  refine Ev.same (fun k => ref03_Number_q k l) ?_
  let Inv : Nat → Vector UInt64 4 → Prop := fun i a => ∀ q, q < 4 → gW a q = if i ≤ 64 * q then bV l / 2 ^ (64 * q) % 18446744073709551616 else if i < 64 * (q + 1) then bV l / 2 ^ i % 2 ^ (64 * (q + 1) - i) else 0
  have gen : ∀ i a, i ≤ 256 → Inv i a → Ev (fun f => ref03_Number_h0 f ((i : Int) - 1) l (Vector.replicate 4 0) a) (uW (bV l)) := by
    intro i
    induction i with
    | zero =>
      intro a _ h
      refine Ev.done fun f => ?_
      rw [ref03_Number_h0_q, bif_neg (by omega)]
      refine congrArg some (w_ext fun q hq => ?_)
      rw [h q hq, if_pos (by omega), uW_get _ _ hq, Nat.pow_mul]
    | succ i ih =>
      intro a hi h
      have ed : Int.tdiv (i : Int) 64 = ((i / 64 : Nat) : Int) := rfl
      have hq0 : i / 64 < 4 := by omega
      have hold := h (i / 64) hq0
      have hbit : (List.getD (Vector.toList l) i false).toNat = bV l / 2 ^ i % 2 := by rw [← bV_bit, bit_nat]
      have hnew : 2 * gW a (i / 64) + (List.getD (Vector.toList l) i false).toNat = if i ≤ 64 * (i / 64) then bV l / 2 ^ (64 * (i / 64)) % 18446744073709551616 else bV l / 2 ^ i % 2 ^ (64 * (i / 64 + 1) - i) := by
        have e : (if i ≤ 64 * (i / 64) then bV l / 2 ^ (64 * (i / 64)) % 18446744073709551616 else bV l / 2 ^ i % 2 ^ (64 * (i / 64 + 1) - i)) = bV l / 2 ^ i % 2 ^ (64 * (i / 64 + 1) - i) := by
          split
          · have : 64 * (i / 64) = i := by omega
            rw [this, show 64 * (i / 64 + 1) - i = 64 by omega]
          · rfl
        rw [e, hold, hbit, if_neg (by omega)]
        by_cases hb : i + 1 < 64 * (i / 64 + 1)
        · rw [if_pos hb, show 64 * (i / 64 + 1) - i = (64 * (i / 64 + 1) - (i + 1)) + 1 by omega, Nat.pow_succ (m := 64 * (i / 64 + 1) - (i + 1)), Nat.mul_comm (2 ^ (64 * (i / 64 + 1) - (i + 1))) 2, Nat.mod_mul, Nat.pow_succ, ← Nat.div_div_eq_div_mul]
          omega
        · rw [if_neg hb, show 64 * (i / 64 + 1) - i = 1 by omega]
          omega
      have hlt : 2 * gW a (i / 64) + (List.getD (Vector.toList l) i false).toNat < 18446744073709551616 := by
        rw [hnew]
        split
        · exact Nat.mod_lt _ (by omega)
        · refine Nat.lt_of_lt_of_le (Nat.mod_lt _ (Nat.two_pow_pos _)) ?_
          have : 2 ^ (64 * (i / 64 + 1) - i) ≤ 2 ^ 64 := Nat.pow_le_pow_right (by decide) (by omega)
          exact this
      have fin : ∀ x : UInt64, x.toNat = 2 * gW a (i / 64) + (List.getD (Vector.toList l) i false).toNat → Inv i (Vector.setIfInBounds a (i / 64) x) := by
        intro x hx q hq
        unfold gW
        rw [vget_set _ _ _ _ _ hq0]
        by_cases e : i / 64 = q
        · subst e
          rw [if_pos rfl, hx, hnew]
          split
          · rfl
          · rw [if_pos (by omega)]
        · rw [if_neg e]
          have := h q hq
          unfold gW at this
          rw [this]
          by_cases c1 : i + 1 ≤ 64 * q
          · rw [if_pos c1, if_pos (by omega)]
          · rw [if_neg c1, if_neg (by omega), if_neg (by omega), if_neg (by omega)]
      have e1 : ((i + 1 : Nat) : Int) - 1 = (i : Int) := by omega
      have hg : gW a (i / 64) = (List.getD (Vector.toList a) (i / 64) 0).toNat := rfl
      have e2 : ((2 : UInt64) * List.getD (Vector.toList a) (i / 64) 0).toNat = 2 * gW a (i / 64) := by
        rw [UInt64.toNat_mul, ← hg, show (2 : UInt64).toNat = 2 from rfl]
        omega
      cases hb : List.getD (Vector.toList l) i false with
      | true =>
        rw [hb] at fin hlt
        simp only [Bool.toNat_true] at fin hlt
        refine Ev.step (fun f => ?_) (ih (Vector.setIfInBounds a (i / 64) ((2 : UInt64) * List.getD (Vector.toList a) (i / 64) 0 + 1)) (by omega) (fin _ (by rw [UInt64.toNat_add, e2, show (1 : UInt64).toNat = 1 from rfl]; omega)))
        rw [e1, ref03_Number_h0_q, bif_pos (by omega), ed, w64_id (by omega) (by omega), if_pos (by omega), if_pos (by omega), Int.toNat_natCast, Int.toNat_natCast, hb, cond_true, w64_id (by omega) (by omega)]
        rw [vget_set _ _ _ _ _ hq0, if_pos rfl]
        congr 1
        refine vext 0 fun j hj => ?_
        rw [vget_set _ _ _ _ _ hq0, vget_set _ _ _ _ _ hq0, vget_set _ _ _ _ _ hq0]
        split <;> rfl
      | false =>
        rw [hb] at fin
        simp only [Bool.toNat_false, Nat.add_zero] at fin
        refine Ev.step (fun f => ?_) (ih (Vector.setIfInBounds a (i / 64) ((2 : UInt64) * List.getD (Vector.toList a) (i / 64) 0)) (by omega) (fin _ e2))
        rw [e1, ref03_Number_h0_q, bif_pos (by omega), ed, w64_id (by omega) (by omega), if_pos (by omega), if_pos (by omega), Int.toNat_natCast, Int.toNat_natCast, hb, cond_false, w64_id (by omega) (by omega)]
  refine gen 256 _ (Nat.le_refl _) fun q hq => ?_
  rw [if_neg (by omega), if_neg (by omega)]
  unfold gW
  rw [vget_rep]
  rfl

end
end Go.Proofs.Ytepcjobghbanmaa.M

namespace Go.Proofs.Ytepcjobghbanmaa.M
open Go
noncomputable section
/-- the loop 0 of moneyer/moneyerref03.Less -/
def ref03_Less_h0 : Nat → Int → (Vector Bool 256) → (Vector Bool 256) → Option (Bool)
  | 0, _, _, _ => none
  | k + 1, i, x_, y => bif decide ((0 : Int) ≤ i) then (if ((0 : Int) ≤ i) ∧ (i < (256 : Int)) then
        bif !(decide ((List.getD (Vector.toList x_) (Int.toNat i) false) = (List.getD (Vector.toList y) (Int.toNat i) false))) then (some (List.getD (Vector.toList y) (Int.toNat i) false))
          else (ref03_Less_h0 k (w64 (i - (1 : Int))) x_ y)
      else none)
      else (some false)
theorem ref03_Less_h0_q (k : Nat) (i : Int) (x_ : Vector Bool 256) (y : Vector Bool 256) : ref03_Less_h0 (k + 1) i x_ y =
  (bif decide ((0 : Int) ≤ i) then (if ((0 : Int) ≤ i) ∧ (i < (256 : Int)) then
        bif !(decide ((List.getD (Vector.toList x_) (Int.toNat i) false) = (List.getD (Vector.toList y) (Int.toNat i) false))) then (some (List.getD (Vector.toList y) (Int.toNat i) false))
          else (ref03_Less_h0 k (w64 (i - (1 : Int))) x_ y)
      else none)
      else (some false)) := by kernel_rfl
/-- moneyer/moneyerref03.Less -/
def ref03_Less (k : Nat) (a : Vector UInt64 4) (b : Vector UInt64 4) : Option (Bool) :=
  ref03_Less_h0 k (255 : Int) (bitsV (uV a)) (bitsV (uV b))
theorem ref03_Less_q (k : Nat) (a : Vector UInt64 4) (b : Vector UInt64 4) : ref03_Less k a b = (ref03_Less_h0 k (255 : Int) (bitsV (uV a)) (bitsV (uV b))) := by kernel_rfl
theorem ref03_Less_spec0 (a b : Vector UInt64 4) : ∃ k, ref03_Less k a b = some (decide (uV a < uV b)) := by
  show Ev (fun k => ref03_Less k a b) _
  refine Ev.same (fun k => ref03_Less_q k a b) ?_
  have gen : ∀ i : Nat, i ≤ 256 → uV a / 2 ^ i = uV b / 2 ^ i → Ev (fun f => ref03_Less_h0 f ((i : Int) - 1) (bitsV (uV a)) (bitsV (uV b))) (decide (uV a < uV b)) := by
    intro i
    induction i with
    | zero =>
      intro _ h
      rw [Nat.pow_zero, Nat.div_one, Nat.div_one] at h
      refine Ev.done fun f => ?_
      rw [ref03_Less_h0_q, bif_neg (by omega), decide_eq_false (by omega)]
    | succ i ih =>
      intro hi h
      have e1 : ((i + 1 : Nat) : Int) - 1 = (i : Int) := by omega
      have ha := bit_split (uV a) i
      have hb := bit_split (uV b) i
      have hp : 0 < 2 ^ i := Nat.two_pow_pos i
      have st : ∀ f, ref03_Less_h0 (f + 1) (((i + 1 : Nat) : Int) - 1) (bitsV (uV a)) (bitsV (uV b)) = bif !(decide ((uV a).testBit i = (uV b).testBit i)) then some ((uV b).testBit i) else ref03_Less_h0 f ((i : Int) - 1) (bitsV (uV a)) (bitsV (uV b)) := by
        intro f
        rw [e1, ref03_Less_h0_q, bif_pos (by omega), if_pos (by omega), Int.toNat_natCast, bitsV_get _ _ (by omega), bitsV_get _ _ (by omega), w64_id (by omega) (by omega)]
      have lt_of : ∀ x y : Nat, x / 2 ^ i < y / 2 ^ i → x < y := by
        intro x y hxy
        by_cases q : x < y
        · exact q
        · have := Nat.div_le_div_right (c := 2 ^ i) (Nat.le_of_not_lt q)
          omega
      by_cases e : (uV a).testBit i = (uV b).testBit i
      · refine Ev.step (fun f => by rw [st f, decide_eq_true e]; rfl) (ih (by omega) ?_)
        rw [ha, hb, h, e]
      · refine Ev.done fun f => ?_
        rw [st f, decide_eq_false e]
        show some _ = some _
        congr 1
        cases h1 : (uV a).testBit i <;> cases h2 : (uV b).testBit i
        · rw [h1, h2] at e; exact absurd rfl e
        · rw [h1] at ha
          rw [h2] at hb
          have := lt_of (uV a) (uV b) (by simp at ha hb; omega)
          rw [decide_eq_true this]
        · rw [h1] at ha
          rw [h2] at hb
          have := lt_of (uV b) (uV a) (by simp at ha hb; omega)
          rw [decide_eq_false (by omega)]
        · rw [h1, h2] at e; exact absurd rfl e
  have ea := Nat.div_eq_of_lt (show uV a < 2 ^ 256 from uV_lt a)
  have eb := Nat.div_eq_of_lt (show uV b < 2 ^ 256 from uV_lt b)
  exact gen 256 (Nat.le_refl _) (by rw [ea, eb])

theorem ref03_Less_spec (a b : Vector UInt64 4) : ∃ k, ref03_Less k a b = some (subB a b) := by
  rw [subB_eq]
  exact ref03_Less_spec0 a b

end
end Go.Proofs.Ytepcjobghbanmaa.M

namespace Go.Proofs.Ytepcjobghbanmaa.M
open Go
noncomputable section
/-- the loop 0 of moneyer/moneyerref03.not -/
def ref03_not_h0 : Nat → Int → (Vector Bool 256) → (Vector Bool 256) → Option (Vector Bool 256)
  | 0, _, _, _ => none
  | k + 1, i, x_, t2 => bif decide (i < (256 : Int)) then (if ((0 : Int) ≤ i) ∧ (i < (256 : Int)) then
        ref03_not_h0 k (w64 (i + (1 : Int))) (Vector.setIfInBounds x_ (Int.toNat i) (!(List.getD (Vector.toList x_) (Int.toNat i) false))) t2
      else none)
      else (some x_)
theorem ref03_not_h0_q (k : Nat) (i : Int) (x_ : Vector Bool 256) (t2 : Vector Bool 256) : ref03_not_h0 (k + 1) i x_ t2 =
  (bif decide (i < (256 : Int)) then (if ((0 : Int) ≤ i) ∧ (i < (256 : Int)) then
        ref03_not_h0 k (w64 (i + (1 : Int))) (Vector.setIfInBounds x_ (Int.toNat i) (!(List.getD (Vector.toList x_) (Int.toNat i) false))) t2
      else none)
      else (some x_)) := by kernel_rfl
/-- moneyer/moneyerref03.not -/
def ref03_not (k : Nat) (x_0 : Vector Bool 256) : Option (Vector Bool 256) :=
  ref03_not_h0 k (0 : Int) x_0 (Vector.replicate (256 : Nat) false)
theorem ref03_not_q (k : Nat) (x_0 : Vector Bool 256) : ref03_not k x_0 = (ref03_not_h0 k (0 : Int) x_0 (Vector.replicate (256 : Nat) false)) := by kernel_rfl
theorem ref03_not_spec (x : Vector Bool 256) : ∃ k, ref03_not k x = some (bNot x) := by
  show Ev (fun k => ref03_not k x) _
  refine Ev.same (fun k => ref03_not_q k x) ?_
  refine Ev.upI (H := fun k i y => ref03_not_h0 k i y (Vector.replicate 256 false)) (lo := 0) (n := 256) (step := fun i y => Vector.setIfInBounds y i (!(List.getD (Vector.toList x) i false)))
    (fun i y => ∀ j, i ≤ j → j < 256 → List.getD (Vector.toList y) j false = List.getD (Vector.toList x) j false) ?_ ?_ 256 0 x (Nat.le_refl 0) rfl (fun _ _ _ => rfl) ?_
  · intro i y _ hi h j hj hj2
    rw [vget_set _ _ _ _ _ hi, if_neg (by omega)]
    exact h j (by omega) hj2
  · intro i y _ hi h e
    refine Ev.step (fun f => ?_) e
    rw [ref03_not_h0_q, bif_pos (by omega), if_pos (by omega), Int.toNat_natCast, h i (Nat.le_refl i) hi, w64_id (by omega) (by omega)]
  · refine Ev.done fun f => ?_
    rw [ref03_not_h0_q, bif_neg (by omega), iterUp_fill (fun i => !(List.getD (Vector.toList x) i false))]
    rfl

end
end Go.Proofs.Ytepcjobghbanmaa.M

namespace Go.Proofs.Ytepcjobghbanmaa.M
open Go
noncomputable section
/-- the loop 0 of moneyer/moneyerref03.sum -/
def ref03_sum_h0 : Nat → Bool → Int → (Vector Bool 256) → (Vector Bool 256) → (Vector Bool 256) → (Vector Bool 256) → Option (Vector Bool 256 × Bool)
  | 0, _, _, _, _, _, _ => none
  | k + 1, carry, i, x_, y, t6, out => bif decide (i < (256 : Int)) then (if ((0 : Int) ≤ i) ∧ (i < (256 : Int)) then
        bif List.getD (Vector.toList x_) (Int.toNat i) false then (bif List.getD (Vector.toList y) (Int.toNat i) false then (bif carry then (ref03_sum_h0 k (decide ((2 : Int) ≤ (3 : Int))) (w64 (i + (1 : Int))) x_ y t6 (Vector.setIfInBounds out (Int.toNat i) (decide ((1 : Int) = (1 : Int)))))
              else (ref03_sum_h0 k (decide ((2 : Int) ≤ (2 : Int))) (w64 (i + (1 : Int))) x_ y t6 (Vector.setIfInBounds out (Int.toNat i) (decide ((0 : Int) = (1 : Int))))))
            else (bif carry then (ref03_sum_h0 k (decide ((2 : Int) ≤ (2 : Int))) (w64 (i + (1 : Int))) x_ y t6 (Vector.setIfInBounds out (Int.toNat i) (decide ((0 : Int) = (1 : Int)))))
              else (ref03_sum_h0 k (decide ((2 : Int) ≤ (1 : Int))) (w64 (i + (1 : Int))) x_ y t6 (Vector.setIfInBounds out (Int.toNat i) (decide ((1 : Int) = (1 : Int)))))))
          else (bif List.getD (Vector.toList y) (Int.toNat i) false then (bif carry then (ref03_sum_h0 k (decide ((2 : Int) ≤ (2 : Int))) (w64 (i + (1 : Int))) x_ y t6 (Vector.setIfInBounds out (Int.toNat i) (decide ((0 : Int) = (1 : Int)))))
              else (ref03_sum_h0 k (decide ((2 : Int) ≤ (1 : Int))) (w64 (i + (1 : Int))) x_ y t6 (Vector.setIfInBounds out (Int.toNat i) (decide ((1 : Int) = (1 : Int))))))
            else (bif carry then (ref03_sum_h0 k (decide ((2 : Int) ≤ (1 : Int))) (w64 (i + (1 : Int))) x_ y t6 (Vector.setIfInBounds out (Int.toNat i) (decide ((1 : Int) = (1 : Int)))))
              else (ref03_sum_h0 k (decide ((2 : Int) ≤ (0 : Int))) (w64 (i + (1 : Int))) x_ y t6 (Vector.setIfInBounds out (Int.toNat i) (decide ((0 : Int) = (1 : Int)))))))
      else none)
      else (some (out, carry))
theorem ref03_sum_h0_q (k : Nat) (carry : Bool) (i : Int) (x_ : Vector Bool 256) (y : Vector Bool 256) (t6 : Vector Bool 256) (out : Vector Bool 256) : ref03_sum_h0 (k + 1) carry i x_ y t6 out =
  (bif decide (i < (256 : Int)) then (if ((0 : Int) ≤ i) ∧ (i < (256 : Int)) then
        bif List.getD (Vector.toList x_) (Int.toNat i) false then (bif List.getD (Vector.toList y) (Int.toNat i) false then (bif carry then (ref03_sum_h0 k (decide ((2 : Int) ≤ (3 : Int))) (w64 (i + (1 : Int))) x_ y t6 (Vector.setIfInBounds out (Int.toNat i) (decide ((1 : Int) = (1 : Int)))))
              else (ref03_sum_h0 k (decide ((2 : Int) ≤ (2 : Int))) (w64 (i + (1 : Int))) x_ y t6 (Vector.setIfInBounds out (Int.toNat i) (decide ((0 : Int) = (1 : Int))))))
            else (bif carry then (ref03_sum_h0 k (decide ((2 : Int) ≤ (2 : Int))) (w64 (i + (1 : Int))) x_ y t6 (Vector.setIfInBounds out (Int.toNat i) (decide ((0 : Int) = (1 : Int)))))
              else (ref03_sum_h0 k (decide ((2 : Int) ≤ (1 : Int))) (w64 (i + (1 : Int))) x_ y t6 (Vector.setIfInBounds out (Int.toNat i) (decide ((1 : Int) = (1 : Int)))))))
          else (bif List.getD (Vector.toList y) (Int.toNat i) false then (bif carry then (ref03_sum_h0 k (decide ((2 : Int) ≤ (2 : Int))) (w64 (i + (1 : Int))) x_ y t6 (Vector.setIfInBounds out (Int.toNat i) (decide ((0 : Int) = (1 : Int)))))
              else (ref03_sum_h0 k (decide ((2 : Int) ≤ (1 : Int))) (w64 (i + (1 : Int))) x_ y t6 (Vector.setIfInBounds out (Int.toNat i) (decide ((1 : Int) = (1 : Int))))))
            else (bif carry then (ref03_sum_h0 k (decide ((2 : Int) ≤ (1 : Int))) (w64 (i + (1 : Int))) x_ y t6 (Vector.setIfInBounds out (Int.toNat i) (decide ((1 : Int) = (1 : Int)))))
              else (ref03_sum_h0 k (decide ((2 : Int) ≤ (0 : Int))) (w64 (i + (1 : Int))) x_ y t6 (Vector.setIfInBounds out (Int.toNat i) (decide ((0 : Int) = (1 : Int)))))))
      else none)
      else (some (out, carry))) := by kernel_rfl
/-- moneyer/moneyerref03.sum -/
def ref03_sum (k : Nat) (x_0 : Vector Bool 256) (y : Vector Bool 256) (carry : Bool) : Option (Vector Bool 256 × Bool) :=
  ref03_sum_h0 k carry (0 : Int) x_0 y (Vector.replicate (256 : Nat) false) (Vector.replicate (256 : Nat) false)
theorem ref03_sum_q (k : Nat) (x_0 : Vector Bool 256) (y : Vector Bool 256) (carry : Bool) : ref03_sum k x_0 y carry = (ref03_sum_h0 k carry (0 : Int) x_0 y (Vector.replicate (256 : Nat) false) (Vector.replicate (256 : Nat) false)) := by kernel_rfl
theorem ref03_sum_spec (x y : Vector Bool 256) (c : Bool) : ∃ k, ref03_sum k x y c = some (sumS x y c) := by
  show Ev (fun k => ref03_sum k x y c) _
  refine Ev.same (fun k => ref03_sum_q k x y c) ?_
  have hC : c.toNat ≤ 1 := by cases c <;> decide
  let cr : Nat → Bool := fun i => decide (2 ^ i ≤ bV x % 2 ^ i + bV y % 2 ^ i + c.toNat)
  have gen : ∀ j i out, i + j = 256 → (∀ k, k < i → List.getD (Vector.toList out) k false = (bV x + bV y + c.toNat).testBit k) → Ev (fun f => ref03_sum_h0 f (cr i) i x y (Vector.replicate 256 false) out) (sumS x y c) := by
    intro j
    induction j with
    | zero =>
      intro i out hi h
      obtain rfl : i = 256 := by omega
      refine Ev.done fun f => ?_
      rw [ref03_sum_h0_q, bif_neg (by omega)]
      unfold sumS
      refine congrArg some (Prod.ext (vext false fun k hk => ?_) ?_)
      · rw [h k hk, bitsV_get _ _ hk]
      · show decide _ = decide _
        rw [Nat.mod_eq_of_lt (bV_lt x), Nat.mod_eq_of_lt (bV_lt y), two256]
    | succ j ih =>
      intro i out hi h
      obtain ⟨s1, s2⟩ := sum_step (X := bV x) (Y := bV y) (i := i) hC (cr i) rfl
      have hn := ih (i + 1) (Vector.setIfInBounds out i ((bV x + bV y + c.toNat).testBit i)) (by omega) (fun k hk => by
        rw [vget_set _ _ _ _ _ (by omega)]
        by_cases e : i = k
        · subst e; rw [if_pos rfl]
        · rw [if_neg e]; exact h k (by omega))
      refine Ev.step (fun f => ?_) hn
      have hcr : cr (i + 1) = decide (2 ≤ (cr i).toNat + ((bV x).testBit i).toNat + ((bV y).testBit i).toNat) := s2
      rw [hcr, s1, ref03_sum_h0_q, bif_pos (by omega), if_pos (by omega), Int.toNat_natCast, w64_id (by omega) (by omega), ← bV_bit, ← bV_bit]
      cases (bV x).testBit i <;> cases (bV y).testBit i <;> cases cr i <;> rfl
  have h0 : cr 0 = c := by
    show decide _ = c
    rw [Nat.pow_zero, Nat.mod_one, Nat.mod_one]
    cases c <;> rfl
  have := gen 256 0 (Vector.replicate 256 false) rfl (fun k hk => by omega)
  rw [h0] at this
  exact this

end
end Go.Proofs.Ytepcjobghbanmaa.M

namespace Go.Proofs.Ytepcjobghbanmaa.M
open Go
noncomputable section
/-- moneyer/moneyerref03.Sub -/
def ref03_Sub (a : Vector UInt64 4) (b : Vector UInt64 4) : Vector UInt64 4 × Bool :=
  ((uW (bV (bitsV (((bV (bitsV (uV a))) + (bV (bNot (bitsV (uV b))))) + (Bool.toNat true))))), (!(decide ((115792089237316195423570985008687907853269984665640564039457584007913129639936 : Nat) ≤ (((bV (bitsV (uV a))) + (bV (bNot (bitsV (uV b))))) + (Bool.toNat true))))))
theorem ref03_Sub_q (a : Vector UInt64 4) (b : Vector UInt64 4) : ref03_Sub a b = (((uW (bV (bitsV (((bV (bitsV (uV a))) + (bV (bNot (bitsV (uV b))))) + (Bool.toNat true))))), (!(decide ((115792089237316195423570985008687907853269984665640564039457584007913129639936 : Nat) ≤ (((bV (bitsV (uV a))) + (bV (bNot (bitsV (uV b))))) + (Bool.toNat true))))))) := by kernel_rfl
theorem ref03_Sub_spec0 (a b : Vector UInt64 4) : ref03_Sub a b = subS a b := by
  have h := bNot_val (bitsV (uV b))
  have hb : bV (bitsV (uV b)) = uV b := by rw [bV_bitsV, two256, Nat.mod_eq_of_lt (uV_lt b)]
  have ha : bV (bitsV (uV a)) = uV a := by rw [bV_bitsV, two256, Nat.mod_eq_of_lt (uV_lt a)]
  rw [hb] at h
  have hlt := uV_lt b
  rw [ref03_Sub]
  unfold subS
  simp only [ha, Bool.toNat_true]
  rw [bV_bitsV, two256, uW_mod]
  have e : uV a + bV (bNot (bitsV (uV b))) + 1 = uV a + 115792089237316195423570985008687907853269984665640564039457584007913129639936 - uV b := by omega
  rw [e]
  refine Prod.ext rfl ?_
  show (!decide _) = decide _
  rw [← decide_not, decide_eq_decide]
  omega

theorem ref03_Sub_spec (a b : Vector UInt64 4) : ref03_Sub a b = (subV a b, subB a b) := by
  rw [subV_eq, subB_eq]
  exact ref03_Sub_spec0 a b

end
end Go.Proofs.Ytepcjobghbanmaa.M

namespace Go.Proofs.Ytepcjobghbanmaa.M
open Go
noncomputable section
mutual
/-- the loop 0 of moneyer/moneyerref03.Over -/
def ref03_Over_h0 : Nat → Int → (Vector UInt64 4) → (Vector UInt64 4) → (Vector UInt64 4) → (Vector Bool 256) → (Vector Bool 256) → (Vector Bool 256) → Option (Vector UInt64 4 × Vector UInt64 4 × Int)
  | 0, _, _, _, _, _, _, _ => none
  | k + 1, i, b, t4, t5, x_, q, r_ => bif decide ((0 : Int) ≤ i) then (ref03_Over_h2 k i (List.getD (Vector.toList r_) (255 : Nat) false) (255 : Int) b t4 t5 x_ q r_)
      else (some ((uW (bV q)), (uW (bV r_)), (0 : Int)))
/-- the loop 2 of moneyer/moneyerref03.Over -/
def ref03_Over_h2 : Nat → Int → Bool → Int → (Vector UInt64 4) → (Vector UInt64 4) → (Vector UInt64 4) → (Vector Bool 256) → (Vector Bool 256) → (Vector Bool 256) → Option (Vector UInt64 4 × Vector UInt64 4 × Int)
  | 0, _, _, _, _, _, _, _, _, _ => none
  | k + 1, i, top, k_, b, t4, t5, x_, q, r_ => bif decide ((0 : Int) < k_) then (if ((0 : Int) ≤ (w64 (k_ - (1 : Int)))) ∧ ((w64 (k_ - (1 : Int))) < (256 : Int)) then
        if ((0 : Int) ≤ k_) ∧ (k_ < (256 : Int)) then
          ref03_Over_h2 k i top (w64 (k_ - (1 : Int))) b t4 t5 x_ q (Vector.setIfInBounds r_ (Int.toNat k_) (List.getD (Vector.toList r_) (Int.toNat (w64 (k_ - (1 : Int)))) false))
        else none
      else none)
      else (if ((0 : Int) ≤ i) ∧ (i < (256 : Int)) then
        bif eqb top false then (bif bif false then true else (!(subB (uW (bV (Vector.setIfInBounds r_ (0 : Nat) (List.getD (Vector.toList x_) (Int.toNat i) false)))) b)) then (ref03_Over_h0 k (w64 (i - (1 : Int))) b t4 t5 x_ (Vector.setIfInBounds q (Int.toNat i) true) (bitsV (uV (subV (uW (bV (Vector.setIfInBounds r_ (0 : Nat) (List.getD (Vector.toList x_) (Int.toNat i) false)))) b))))
            else (ref03_Over_h0 k (w64 (i - (1 : Int))) b t4 t5 x_ q (Vector.setIfInBounds r_ (0 : Nat) (List.getD (Vector.toList x_) (Int.toNat i) false))))
          else (ref03_Over_h0 k (w64 (i - (1 : Int))) b t4 t5 x_ (Vector.setIfInBounds q (Int.toNat i) true) (bitsV (uV (subV (uW (bV (Vector.setIfInBounds r_ (0 : Nat) (List.getD (Vector.toList x_) (Int.toNat i) false)))) b))))
      else none)
end
theorem ref03_Over_h0_q (k : Nat) (i : Int) (b : Vector UInt64 4) (t4 : Vector UInt64 4) (t5 : Vector UInt64 4) (x_ : Vector Bool 256) (q : Vector Bool 256) (r_ : Vector Bool 256) : ref03_Over_h0 (k + 1) i b t4 t5 x_ q r_ =
  (bif decide ((0 : Int) ≤ i) then (ref03_Over_h2 k i (List.getD (Vector.toList r_) (255 : Nat) false) (255 : Int) b t4 t5 x_ q r_)
      else (some ((uW (bV q)), (uW (bV r_)), (0 : Int)))) := by kernel_rfl
theorem ref03_Over_h2_q (k : Nat) (i : Int) (top : Bool) (k_ : Int) (b : Vector UInt64 4) (t4 : Vector UInt64 4) (t5 : Vector UInt64 4) (x_ : Vector Bool 256) (q : Vector Bool 256) (r_ : Vector Bool 256) : ref03_Over_h2 (k + 1) i top k_ b t4 t5 x_ q r_ =
  (bif decide ((0 : Int) < k_) then (if ((0 : Int) ≤ (w64 (k_ - (1 : Int)))) ∧ ((w64 (k_ - (1 : Int))) < (256 : Int)) then
        if ((0 : Int) ≤ k_) ∧ (k_ < (256 : Int)) then
          ref03_Over_h2 k i top (w64 (k_ - (1 : Int))) b t4 t5 x_ q (Vector.setIfInBounds r_ (Int.toNat k_) (List.getD (Vector.toList r_) (Int.toNat (w64 (k_ - (1 : Int)))) false))
        else none
      else none)
      else (if ((0 : Int) ≤ i) ∧ (i < (256 : Int)) then
        bif eqb top false then (bif bif false then true else (!(subB (uW (bV (Vector.setIfInBounds r_ (0 : Nat) (List.getD (Vector.toList x_) (Int.toNat i) false)))) b)) then (ref03_Over_h0 k (w64 (i - (1 : Int))) b t4 t5 x_ (Vector.setIfInBounds q (Int.toNat i) true) (bitsV (uV (subV (uW (bV (Vector.setIfInBounds r_ (0 : Nat) (List.getD (Vector.toList x_) (Int.toNat i) false)))) b))))
            else (ref03_Over_h0 k (w64 (i - (1 : Int))) b t4 t5 x_ q (Vector.setIfInBounds r_ (0 : Nat) (List.getD (Vector.toList x_) (Int.toNat i) false))))
          else (ref03_Over_h0 k (w64 (i - (1 : Int))) b t4 t5 x_ (Vector.setIfInBounds q (Int.toNat i) true) (bitsV (uV (subV (uW (bV (Vector.setIfInBounds r_ (0 : Nat) (List.getD (Vector.toList x_) (Int.toNat i) false)))) b))))
      else none)) := by kernel_rfl
/-- moneyer/moneyerref03.Over -/
def ref03_Over (k : Nat) (a : Vector UInt64 4) (b : Vector UInt64 4) : Option (Vector UInt64 4 × Vector UInt64 4 × Int) :=
  bif decide ((Vector.toList b) = (Vector.toList (Vector.replicate (4 : Nat) (0 : UInt64)))) then (some ((Vector.replicate (4 : Nat) (0 : UInt64)), (Vector.replicate (4 : Nat) (0 : UInt64)), (2 : Int)))
    else (ref03_Over_h0 k (255 : Int) b (Vector.replicate (4 : Nat) (0 : UInt64)) (Vector.replicate (4 : Nat) (0 : UInt64)) (bitsV (uV a)) (Vector.replicate (256 : Nat) false) (Vector.replicate (256 : Nat) false))
theorem ref03_Over_q (k : Nat) (a : Vector UInt64 4) (b : Vector UInt64 4) : ref03_Over k a b = (bif decide ((Vector.toList b) = (Vector.toList (Vector.replicate (4 : Nat) (0 : UInt64)))) then (some ((Vector.replicate (4 : Nat) (0 : UInt64)), (Vector.replicate (4 : Nat) (0 : UInt64)), (2 : Int)))
    else (ref03_Over_h0 k (255 : Int) b (Vector.replicate (4 : Nat) (0 : UInt64)) (Vector.replicate (4 : Nat) (0 : UInt64)) (bitsV (uV a)) (Vector.replicate (256 : Nat) false) (Vector.replicate (256 : Nat) false))) := by kernel_rfl
theorem ref03_Over_inner (I : Int) (top : Bool) (b : Vector UInt64 4) (x q r0 : Vector Bool 256) (R : Vector UInt64 4 × Vector UInt64 4 × Int)
    (fin : ∀ r : Vector Bool 256, (∀ j, j < 256 → 1 ≤ j → List.getD (Vector.toList r) j false = List.getD (Vector.toList r0) (j - 1) false) → Ev (fun k => ref03_Over_h2 k I top 0 b (Vector.replicate 4 0) (Vector.replicate 4 0) x q r) R) :
    Ev (fun k => ref03_Over_h2 k I top 255 b (Vector.replicate 4 0) (Vector.replicate 4 0) x q r0) R := by
  refine Ev.dwn (H := fun k i r => ref03_Over_h2 k I top (i + 1) b (Vector.replicate 4 0) (Vector.replicate 4 0) x q r) (n := 255)
    (fun i r => ∀ j, j < 256 → List.getD (Vector.toList r) j false = if i < j then List.getD (Vector.toList r0) (j - 1) false else List.getD (Vector.toList r0) j false) ?_ ?_ 255 r0 (Nat.le_refl _) ?_
  · intro i r hi hv next
    refine Ev.step (fun k => ?_) (next (Vector.setIfInBounds r (i + 1) (List.getD (Vector.toList r) i false)) ?_)
    · show ref03_Over_h2 (k + 1) I top ((i : Int) + 1) b _ _ x q r = ref03_Over_h2 k I top ((i : Int) - 1 + 1) b _ _ x q _
      rw [ref03_Over_h2_q, bif_pos (by omega), w64_id (by omega) (by omega), if_pos (by omega), if_pos (by omega), show (i : Int) + 1 - 1 = (i : Int) by omega, show (i : Int) - 1 + 1 = (i : Int) by omega, Int.toNat_natCast, show Int.toNat ((i : Int) + 1) = i + 1 by omega]
    · intro j hj
      rw [vget_set _ _ _ _ _ (by omega)]
      by_cases e : i + 1 = j
      · subst e
        rw [if_pos rfl, if_pos (by omega), hv i (by omega), if_neg (by omega)]
        rfl
      · rw [if_neg e, hv j hj]
        by_cases c : i + 1 < j
        · rw [if_pos c, if_pos (by omega)]
        · rw [if_neg c, if_neg (by omega)]
  · intro r hv
    refine fin r fun j hj h1 => ?_
    rw [hv j hj, if_pos (by omega)]
  · intro j hj
    rw [if_neg (by omega)]
theorem ref03_Over_spec (a b : Vector UInt64 4) : ∃ k, ref03_Over k a b = some (ovQ a b, ovR a b, ovE b) := by
  show Ev (fun k => ref03_Over k a b) _
  refine Ev.same (fun k => ref03_Over_q k a b) ?_
  by_cases c0 : Vector.toList b = Vector.toList (Vector.replicate 4 0)
  · refine Ev.done0 fun k => ?_
    rw [bif_pos c0]
    rw [uV_zero] at c0
    rw [ovQ_eq, ovR_eq, ovE_eq]
    rw [c0, if_pos rfl, if_pos rfl, Nat.div_zero]
    rfl
  refine Ev.same (fun k => bif_neg c0) ?_
  rw [uV_zero] at c0
  have hB : 0 < uV b := by omega
  refine Ev.dwn (H := fun k i (s : Vector Bool 256 × Vector Bool 256) => ref03_Over_h0 k i b (Vector.replicate 4 0) (Vector.replicate 4 0) (bitsV (uV a)) s.1 s.2) (n := 256)
    (fun i s => (∀ j, j < 256 → List.getD (Vector.toList s.1) j false = (decide (i ≤ j) && (uV a / uV b).testBit j)) ∧ bV s.2 = uV a / 2 ^ i % uV b) ?_ ?_ 256 (_, _) (Nat.le_refl _) ?_
  · rintro i ⟨q, r⟩ hi ⟨hq, hr⟩ next
    simp only at hq hr next
    have hbv := fun v : Vector Bool 256 => bV_lt v
    have eW : ∀ v : Vector Bool 256, uV (uW (bV v)) = bV v := fun v => by rw [uV_uW, Nat.mod_eq_of_lt (by rw [← two256]; exact hbv v)]
    have hT : ∀ (r' : Vector UInt64 4), uV r' = uV a / 2 ^ i % uV b → (uV a / uV b).testBit i = true → Ev (fun k => ref03_Over_h0 k ((i : Int) - 1) b (Vector.replicate 4 0) (Vector.replicate 4 0) (bitsV (uV a)) (Vector.setIfInBounds q i true) (bitsV (uV r'))) (ovQ a b, ovR a b, ovE b) := by
      intro r' h1 h2
      refine next (Vector.setIfInBounds q i true, bitsV (uV r')) ⟨fun j hj => ?_, ?_⟩
      · show List.getD (Vector.toList (Vector.setIfInBounds q i true)) j false = _
        rw [vget_set _ _ _ _ _ hi]
        by_cases e : i = j
        · subst e; rw [if_pos rfl, h2, decide_eq_true (Nat.le_refl _)]; rfl
        · rw [if_neg e, hq j hj]
          congr 1
          rw [decide_eq_decide]; omega
      · show bV (bitsV (uV r')) = _
        rw [bV_bitsV, two256, Nat.mod_eq_of_lt (uV_lt r'), h1]
    have hU : ∀ (r' : Vector UInt64 4), uV r' = uV a / 2 ^ i % uV b → (uV a / uV b).testBit i = false → Ev (fun k => ref03_Over_h0 k ((i : Int) - 1) b (Vector.replicate 4 0) (Vector.replicate 4 0) (bitsV (uV a)) q (bitsV (uV r'))) (ovQ a b, ovR a b, ovE b) := by
      intro r' h1 h2
      refine next (q, bitsV (uV r')) ⟨fun j hj => ?_, ?_⟩
      · show List.getD (Vector.toList q) j false = _
        rw [hq j hj]
        by_cases e : j = i
        · subst e; rw [h2, Bool.and_false, Bool.and_false]
        · congr 1
          rw [decide_eq_decide]; omega
      · show bV (bitsV (uV r')) = _
        rw [bV_bitsV, two256, Nat.mod_eq_of_lt (uV_lt r'), h1]
    refine Ev.step (fun k => ?_) (ref03_Over_inner (i : Int) (List.getD (Vector.toList r) 255 false) b (bitsV (uV a)) q r _ fun r1 h1 => ?_)
    · show ref03_Over_h0 (k + 1) _ b _ _ _ q r = _
      rw [ref03_Over_h0_q, bif_pos (by omega)]
    have e1 : bV (Vector.setIfInBounds r1 0 ((uV a).testBit i)) = (2 * bV r + ((uV a).testBit i).toNat) % 2 ^ 256 := by
      apply Nat.eq_of_testBit_eq
      intro j
      rw [bV_bit, Nat.testBit_mod_two_pow, dbl_bit]
      by_cases hj : j < 256
      · rw [decide_eq_true hj, Bool.true_and, vget_set _ _ _ _ _ (by omega)]
        by_cases e : 0 = j
        · rw [if_pos e, if_pos e.symm]
        · rw [if_neg e, if_neg (fun c => e c.symm), h1 j hj (by omega), bV_bit]
      · rw [decide_eq_false hj, Bool.false_and, ← bV_bit]
        exact Nat.testBit_lt_two_pow (Nat.lt_of_lt_of_le (hbv _) (Nat.pow_le_pow_right (by decide) (by omega)))
    have hY : uW (bV (Vector.setIfInBounds r1 0 ((uV a).testBit i))) = uW (2 * uV (uW (bV r)) + ((uV a).testBit i).toNat) := by
      rw [e1, two256, uW_mod, eW]
    obtain ⟨r', g1, g2⟩ := big_Over_step a b (uW (bV r)) i hB (by rw [eW, hr]) (fun v => fun k => ref03_Over_h0 k ((i : Int) - 1) b (Vector.replicate 4 0) (Vector.replicate 4 0) (bitsV (uV a)) (Vector.setIfInBounds q i true) (bitsV (uV v))) (fun v => fun k => ref03_Over_h0 k ((i : Int) - 1) b (Vector.replicate 4 0) (Vector.replicate 4 0) (bitsV (uV a)) q (bitsV (uV v))) ((uV a).testBit i) rfl (uW (bV (Vector.setIfInBounds r1 0 ((uV a).testBit i)))) hY
    have et : Nat.testBit (uV (uW (bV r))) 255 = List.getD (Vector.toList r) 255 false := by rw [eW, bV_bit]
    have F : ∀ k, ref03_Over_h2 (k + 1) (i : Int) (List.getD (Vector.toList r) 255 false) 0 b (Vector.replicate 4 0) (Vector.replicate 4 0) (bitsV (uV a)) q r1 = (if (uV a / uV b).testBit i then fun k => ref03_Over_h0 k ((i : Int) - 1) b (Vector.replicate 4 0) (Vector.replicate 4 0) (bitsV (uV a)) (Vector.setIfInBounds q i true) (bitsV (uV r')) else fun k => ref03_Over_h0 k ((i : Int) - 1) b (Vector.replicate 4 0) (Vector.replicate 4 0) (bitsV (uV a)) q (bitsV (uV r'))) k := by
      intro k
      rw [ref03_Over_h2_q, bif_neg (by omega), if_pos (by omega), Int.toNat_natCast, bitsV_get _ _ hi, w64_id (by omega) (by omega), ← g2, et, eW, bitsV_bV]
      rw [subB_eq, eW]
      cases eqb (List.getD (Vector.toList r) 255 false) false <;> cases decide (bV (Vector.setIfInBounds r1 0 ((uV a).testBit i)) < uV b) <;> rfl
    cases hb : (uV a / uV b).testBit i with
    | true =>
      refine Ev.step (fun k => ?_) (hT r' g1 hb)
      rw [F k, hb, if_pos rfl]
    | false =>
      refine Ev.step (fun k => ?_) (hU r' g1 hb)
      rw [F k, hb, if_neg (by decide)]
  · rintro ⟨q, r⟩ ⟨hq, hr⟩
    refine Ev.done fun k => ?_
    simp only at hq hr
    show ref03_Over_h0 (k + 1) _ b _ _ _ q r = _
    rw [ref03_Over_h0_q, bif_neg (by omega)]
    rw [ovQ_eq, ovR_eq, ovE_eq]
    refine congrArg some (Prod.ext ?_ (Prod.ext ?_ ?_))
    · refine u_bit_ext fun j hj => ?_
      show (uV (uW (bV q))).testBit j = (uV (uW _)).testBit j
      rw [uW_bit, uW_bit, bV_bit, hq j hj, decide_eq_true (Nat.zero_le _), Bool.true_and]
    · show uW (bV r) = uW _
      rw [if_neg c0, hr, Nat.pow_zero, Nat.div_one]
    · show (0 : Int) = if uV b = 0 then 2 else 0
      rw [if_neg c0]
  · refine ⟨fun j hj => ?_, ?_⟩
    · show List.getD (Vector.toList (Vector.replicate 256 false)) j false = _
      rw [vget_rep, decide_eq_false (by omega), Bool.false_and]
    · show bV (Vector.replicate 256 false) = _
      have e : bV (Vector.replicate 256 false) = 0 := by
        apply Nat.eq_of_testBit_eq
        intro j
        rw [bV_bit, vget_rep, Nat.zero_testBit]
      rw [e, two256, Nat.div_eq_of_lt (uV_lt a), Nat.zero_mod]

end
end Go.Proofs.Ytepcjobghbanmaa.M

namespace Go.Proofs.Ytepcjobghbanmaa.M
open Go
noncomputable section
/-- moneyer/moneyerref03.Div -/
def ref03_Div (a : Vector UInt64 4) (n : UInt64) : Vector UInt64 4 × UInt64 × Int :=
  ((ovQ a (uW (UInt64.toNat n))), (List.getD (Vector.toList (ovR a (uW (UInt64.toNat n)))) (0 : Nat) (0 : UInt64)), (ovE (uW (UInt64.toNat n))))
theorem ref03_Div_q (a : Vector UInt64 4) (n : UInt64) : ref03_Div a n = (((ovQ a (uW (UInt64.toNat n))), (List.getD (Vector.toList (ovR a (uW (UInt64.toNat n)))) (0 : Nat) (0 : UInt64)), (ovE (uW (UInt64.toNat n))))) := by kernel_rfl
theorem ref03_Div_spec (a : Vector UInt64 4) (n : UInt64) : ref03_Div a n = (uW (uV a / n.toNat), divR a n, divE n) := by
  have hn : uV (uW n.toNat) = n.toNat := by
    have := n.toNat_lt
    rw [uV_uW, Nat.mod_eq_of_lt (by omega)]
  rw [ref03_Div, ovQ_eq, ovR_eq, ovE_eq, divR_eq, divE_eq]
  rw [hn]
  refine Prod.ext rfl (Prod.ext ?_ rfl)
  show List.getD (Vector.toList (uW _)) 0 0 = _
  apply UInt64.toNat_inj.1
  rw [gW_def, uW_get _ _ (by omega), Nat.pow_zero, Nat.div_one]
  by_cases c : n.toNat = 0
  · rw [if_pos c, if_pos c]
    rfl
  · rw [if_neg c, if_neg c, UInt64.toNat_ofNat']

end
end Go.Proofs.Ytepcjobghbanmaa.M

namespace Go.Proofs.Ytepcjobghbanmaa.M
open Go
noncomputable section
/-- the loop 6 of moneyer/moneyerref03.Mul -/
def ref03_Mul_h6 : Nat → UInt64 → Int → (Vector UInt64 4) → (Vector Bool 320) → (Vector Bool 256) → Option (Vector UInt64 4 × UInt64)
  | 0, _, _, _, _, _ => none
  | k + 1, high, i, t4, all, low => bif decide ((256 : Int) ≤ i) then (if ((0 : Int) ≤ i) ∧ (i < (320 : Int)) then
        bif List.getD (Vector.toList all) (Int.toNat i) false then (ref03_Mul_h6 k (((2 : UInt64) * high) + (1 : UInt64)) (w64 (i - (1 : Int))) t4 all low)
          else (ref03_Mul_h6 k ((2 : UInt64) * high) (w64 (i - (1 : Int))) t4 all low)
      else none)
      else (some ((uW (bV low)), high))
theorem ref03_Mul_h6_q (k : Nat) (high : UInt64) (i : Int) (t4 : Vector UInt64 4) (all : Vector Bool 320) (low : Vector Bool 256) : ref03_Mul_h6 (k + 1) high i t4 all low =
  (bif decide ((256 : Int) ≤ i) then (if ((0 : Int) ≤ i) ∧ (i < (320 : Int)) then
        bif List.getD (Vector.toList all) (Int.toNat i) false then (ref03_Mul_h6 k (((2 : UInt64) * high) + (1 : UInt64)) (w64 (i - (1 : Int))) t4 all low)
          else (ref03_Mul_h6 k ((2 : UInt64) * high) (w64 (i - (1 : Int))) t4 all low)
      else none)
      else (some ((uW (bV low)), high))) := by kernel_rfl
/-- the loop 4 of moneyer/moneyerref03.Mul -/
def ref03_Mul_h4 : Nat → Int → (Vector UInt64 4) → (Vector Bool 320) → (Vector Bool 256) → Option (Vector UInt64 4 × UInt64)
  | 0, _, _, _, _ => none
  | k + 1, i, t4, all, low => bif decide (i < (256 : Int)) then (if ((0 : Int) ≤ i) ∧ (i < (320 : Int)) then
        if ((0 : Int) ≤ i) ∧ (i < (256 : Int)) then
          ref03_Mul_h4 k (w64 (i + (1 : Int))) t4 all (Vector.setIfInBounds low (Int.toNat i) (List.getD (Vector.toList all) (Int.toNat i) false))
        else none
      else none)
      else (ref03_Mul_h6 k (0 : UInt64) (319 : Int) t4 all low)
theorem ref03_Mul_h4_q (k : Nat) (i : Int) (t4 : Vector UInt64 4) (all : Vector Bool 320) (low : Vector Bool 256) : ref03_Mul_h4 (k + 1) i t4 all low =
  (bif decide (i < (256 : Int)) then (if ((0 : Int) ≤ i) ∧ (i < (320 : Int)) then
        if ((0 : Int) ≤ i) ∧ (i < (256 : Int)) then
          ref03_Mul_h4 k (w64 (i + (1 : Int))) t4 all (Vector.setIfInBounds low (Int.toNat i) (List.getD (Vector.toList all) (Int.toNat i) false))
        else none
      else none)
      else (ref03_Mul_h6 k (0 : UInt64) (319 : Int) t4 all low)) := by kernel_rfl
mutual
/-- the loop 0 of moneyer/moneyerref03.Mul -/
def ref03_Mul_h0 : Nat → UInt64 → Int → (Vector UInt64 4) → (Vector Bool 256) → (Vector Bool 320) → Option (Vector UInt64 4 × UInt64)
  | 0, _, _, _, _, _ => none
  | k + 1, n, k_, t4, x_, all => bif decide (k_ < (64 : Int)) then (bif decide ((n % (2 : UInt64)) = (0 : UInt64)) then (ref03_Mul_h0 k (n / (2 : UInt64)) (w64 (k_ + (1 : Int))) t4 x_ all)
        else (ref03_Mul_h2 k (n / (2 : UInt64)) k_ (0 : Int) k_ t4 x_ all))
      else (ref03_Mul_h4 k (0 : Int) t4 all (Vector.replicate (256 : Nat) false))
/-- the loop 2 of moneyer/moneyerref03.Mul -/
def ref03_Mul_h2 : Nat → UInt64 → Int → Int → Int → (Vector UInt64 4) → (Vector Bool 256) → (Vector Bool 320) → Option (Vector UInt64 4 × UInt64)
  | 0, _, _, _, _, _, _, _ => none
  | k + 1, n, k_, carry, i, t4, x_, all => bif decide (i < (320 : Int)) then (if ((0 : Int) ≤ i) ∧ (i < (320 : Int)) then
        bif List.getD (Vector.toList all) (Int.toNat i) false then (bif eqb (decide ((w64 (i - k_)) < (256 : Int))) true then (if ((0 : Int) ≤ (w64 (i - k_))) ∧ ((w64 (i - k_)) < (256 : Int)) then
              bif bif true then (List.getD (Vector.toList x_) (Int.toNat (w64 (i - k_))) false) else false then (ref03_Mul_h2 k n k_ (w64 (Int.tdiv (w64 ((w64 (carry + (1 : Int))) + (1 : Int))) (2 : Int))) (w64 (i + (1 : Int))) t4 x_ (Vector.setIfInBounds all (Int.toNat i) (decide ((Int.tmod (w64 ((w64 (carry + (1 : Int))) + (1 : Int))) (2 : Int)) = (1 : Int)))))
                else (ref03_Mul_h2 k n k_ (w64 (Int.tdiv (w64 (carry + (1 : Int))) (2 : Int))) (w64 (i + (1 : Int))) t4 x_ (Vector.setIfInBounds all (Int.toNat i) (decide ((Int.tmod (w64 (carry + (1 : Int))) (2 : Int)) = (1 : Int)))))
            else none)
            else (ref03_Mul_h2 k n k_ (w64 (Int.tdiv (w64 (carry + (1 : Int))) (2 : Int))) (w64 (i + (1 : Int))) t4 x_ (Vector.setIfInBounds all (Int.toNat i) (decide ((Int.tmod (w64 (carry + (1 : Int))) (2 : Int)) = (1 : Int))))))
          else (bif eqb (decide ((w64 (i - k_)) < (256 : Int))) true then (if ((0 : Int) ≤ (w64 (i - k_))) ∧ ((w64 (i - k_)) < (256 : Int)) then
              bif bif true then (List.getD (Vector.toList x_) (Int.toNat (w64 (i - k_))) false) else false then (ref03_Mul_h2 k n k_ (w64 (Int.tdiv (w64 (carry + (1 : Int))) (2 : Int))) (w64 (i + (1 : Int))) t4 x_ (Vector.setIfInBounds all (Int.toNat i) (decide ((Int.tmod (w64 (carry + (1 : Int))) (2 : Int)) = (1 : Int)))))
                else (ref03_Mul_h2 k n k_ (w64 (Int.tdiv carry (2 : Int))) (w64 (i + (1 : Int))) t4 x_ (Vector.setIfInBounds all (Int.toNat i) (decide ((Int.tmod carry (2 : Int)) = (1 : Int)))))
            else none)
            else (ref03_Mul_h2 k n k_ (w64 (Int.tdiv carry (2 : Int))) (w64 (i + (1 : Int))) t4 x_ (Vector.setIfInBounds all (Int.toNat i) (decide ((Int.tmod carry (2 : Int)) = (1 : Int))))))
      else none)
      else (ref03_Mul_h0 k n (w64 (k_ + (1 : Int))) t4 x_ all)
end
theorem ref03_Mul_h0_q (k : Nat) (n : UInt64) (k_ : Int) (t4 : Vector UInt64 4) (x_ : Vector Bool 256) (all : Vector Bool 320) : ref03_Mul_h0 (k + 1) n k_ t4 x_ all =
  (bif decide (k_ < (64 : Int)) then (bif decide ((n % (2 : UInt64)) = (0 : UInt64)) then (ref03_Mul_h0 k (n / (2 : UInt64)) (w64 (k_ + (1 : Int))) t4 x_ all)
        else (ref03_Mul_h2 k (n / (2 : UInt64)) k_ (0 : Int) k_ t4 x_ all))
      else (ref03_Mul_h4 k (0 : Int) t4 all (Vector.replicate (256 : Nat) false))) := by kernel_rfl
theorem ref03_Mul_h2_q (k : Nat) (n : UInt64) (k_ : Int) (carry : Int) (i : Int) (t4 : Vector UInt64 4) (x_ : Vector Bool 256) (all : Vector Bool 320) : ref03_Mul_h2 (k + 1) n k_ carry i t4 x_ all =
  (bif decide (i < (320 : Int)) then (if ((0 : Int) ≤ i) ∧ (i < (320 : Int)) then
        bif List.getD (Vector.toList all) (Int.toNat i) false then (bif eqb (decide ((w64 (i - k_)) < (256 : Int))) true then (if ((0 : Int) ≤ (w64 (i - k_))) ∧ ((w64 (i - k_)) < (256 : Int)) then
              bif bif true then (List.getD (Vector.toList x_) (Int.toNat (w64 (i - k_))) false) else false then (ref03_Mul_h2 k n k_ (w64 (Int.tdiv (w64 ((w64 (carry + (1 : Int))) + (1 : Int))) (2 : Int))) (w64 (i + (1 : Int))) t4 x_ (Vector.setIfInBounds all (Int.toNat i) (decide ((Int.tmod (w64 ((w64 (carry + (1 : Int))) + (1 : Int))) (2 : Int)) = (1 : Int)))))
                else (ref03_Mul_h2 k n k_ (w64 (Int.tdiv (w64 (carry + (1 : Int))) (2 : Int))) (w64 (i + (1 : Int))) t4 x_ (Vector.setIfInBounds all (Int.toNat i) (decide ((Int.tmod (w64 (carry + (1 : Int))) (2 : Int)) = (1 : Int)))))
            else none)
            else (ref03_Mul_h2 k n k_ (w64 (Int.tdiv (w64 (carry + (1 : Int))) (2 : Int))) (w64 (i + (1 : Int))) t4 x_ (Vector.setIfInBounds all (Int.toNat i) (decide ((Int.tmod (w64 (carry + (1 : Int))) (2 : Int)) = (1 : Int))))))
          else (bif eqb (decide ((w64 (i - k_)) < (256 : Int))) true then (if ((0 : Int) ≤ (w64 (i - k_))) ∧ ((w64 (i - k_)) < (256 : Int)) then
              bif bif true then (List.getD (Vector.toList x_) (Int.toNat (w64 (i - k_))) false) else false then (ref03_Mul_h2 k n k_ (w64 (Int.tdiv (w64 (carry + (1 : Int))) (2 : Int))) (w64 (i + (1 : Int))) t4 x_ (Vector.setIfInBounds all (Int.toNat i) (decide ((Int.tmod (w64 (carry + (1 : Int))) (2 : Int)) = (1 : Int)))))
                else (ref03_Mul_h2 k n k_ (w64 (Int.tdiv carry (2 : Int))) (w64 (i + (1 : Int))) t4 x_ (Vector.setIfInBounds all (Int.toNat i) (decide ((Int.tmod carry (2 : Int)) = (1 : Int)))))
            else none)
            else (ref03_Mul_h2 k n k_ (w64 (Int.tdiv carry (2 : Int))) (w64 (i + (1 : Int))) t4 x_ (Vector.setIfInBounds all (Int.toNat i) (decide ((Int.tmod carry (2 : Int)) = (1 : Int))))))
      else none)
      else (ref03_Mul_h0 k n (w64 (k_ + (1 : Int))) t4 x_ all)) := by kernel_rfl
/-- moneyer/moneyerref03.Mul -/
def ref03_Mul (k : Nat) (a : Vector UInt64 4) (n : UInt64) : Option (Vector UInt64 4 × UInt64) :=
  ref03_Mul_h0 k n (0 : Int) (Vector.replicate (4 : Nat) (0 : UInt64)) (bitsV (uV a)) (Vector.replicate (320 : Nat) false)
theorem ref03_Mul_q (k : Nat) (a : Vector UInt64 4) (n : UInt64) : ref03_Mul k a n = (ref03_Mul_h0 k n (0 : Int) (Vector.replicate (4 : Nat) (0 : UInt64)) (bitsV (uV a)) (Vector.replicate (320 : Nat) false)) := by kernel_rfl
theorem ref03_Mul_s (n : UInt64) (K i : Nat) (hK : K ≤ i) (hi : i < 320) (c : Bool) (A : Nat) (all : Vector Bool 320) (t4 : Vector UInt64 4) (hA : A < 2 ^ 256) (f : Nat) :
    ref03_Mul_h2 (f + 1) n (K : Int) ((c.toNat : Nat) : Int) (i : Int) t4 (bitsV A) all =
      ref03_Mul_h2 f n (K : Int) (((decide (2 ≤ c.toNat + (List.getD (Vector.toList all) i false).toNat + ((A * 2 ^ K).testBit i).toNat)).toNat : Nat) : Int) ((i : Int) + 1) t4 (bitsV A)
        (Vector.setIfInBounds all i (decide ((c.toNat + (List.getD (Vector.toList all) i false).toNat + ((A * 2 ^ K).testBit i).toNat) % 2 = 1))) := by
  have hw : w64 ((i : Int) - (K : Int)) = ((i - K : Nat) : Int) := by rw [w64_id (by omega) (by omega)]; omega
  rw [ref03_Mul_h2_q, bif_pos (by omega), if_pos (by omega), Int.toNat_natCast, hw, w64_id (x := (i : Int) + 1) (by omega) (by omega)]
  rw [Nat.testBit_mul_two_pow, decide_eq_true hK, Bool.true_and]
  by_cases h : i - K < 256
  · rw [decide_eq_true (p := ((i - K : Nat) : Int) < 256) (by omega)]
    simp only [eqb, cond_true]
    rw [if_pos (by omega), if_pos (by omega), Int.toNat_natCast, bitsV_get _ _ h]
    cases List.getD (Vector.toList all) i false <;> cases A.testBit (i - K) <;> cases c <;> rfl
  · rw [decide_eq_false (p := ((i - K : Nat) : Int) < 256) (by omega)]
    simp only [eqb, cond_false]
    have : A.testBit (i - K) = false := Nat.testBit_lt_two_pow (Nat.lt_of_lt_of_le hA (Nat.pow_le_pow_right (by decide) (by omega)))
    rw [this]
    cases List.getD (Vector.toList all) i false <;> cases c <;> rfl
theorem ref03_Mul_l2 (n : UInt64) (K : Nat) (hK : K < 64) (A V : Nat) (hA : A < 2 ^ 256) (all0 : Vector Bool 320) (h0 : ∀ j, j < 320 → List.getD (Vector.toList all0) j false = V.testBit j) (R : Vector UInt64 4 × UInt64)
    (fin : ∀ all : Vector Bool 320, (∀ j, j < 320 → List.getD (Vector.toList all) j false = (V + A * 2 ^ K).testBit j) → Ev (fun k => ref03_Mul_h0 k n ((K : Int) + 1) (Vector.replicate 4 0) (bitsV A) all) R) :
    Ev (fun k => ref03_Mul_h2 k n (K : Int) 0 (K : Int) (Vector.replicate 4 0) (bitsV A) all0) R := by
  refine Ev.inv (H := fun k i (s : Bool × Vector Bool 320) => ref03_Mul_h2 k n (K : Int) ((s.1.toNat : Nat) : Int) i (Vector.replicate 4 0) (bitsV A) s.2) (n := 320)
    (fun i s => K ≤ i ∧ s.1 = decide (2 ^ i ≤ V % 2 ^ i + A * 2 ^ K % 2 ^ i + 0) ∧ ∀ j, j < 320 → List.getD (Vector.toList s.2) j false = if j < i then (V + A * 2 ^ K).testBit j else V.testBit j) ?_ ?_ (320 - K) K (false, all0) (by omega) ?_
  · rintro i ⟨c, all⟩ hi ⟨h1, h2, h3⟩ next
    simp only at h2 h3 next
    have ss := sum_step (X := V) (Y := A * 2 ^ K) (C := 0) (i := i) (by omega) c h2
    rw [Nat.add_zero] at ss
    have hb : List.getD (Vector.toList all) i false = V.testBit i := by rw [h3 i hi, if_neg (by omega)]
    refine Ev.step (fun k => ?_) (next (decide (2 ≤ c.toNat + (V.testBit i).toNat + ((A * 2 ^ K).testBit i).toNat), Vector.setIfInBounds all i (decide ((c.toNat + (V.testBit i).toNat + ((A * 2 ^ K).testBit i).toNat) % 2 = 1))) ⟨by omega, ?_, fun j hj => ?_⟩)
    · show ref03_Mul_h2 (k + 1) n (K : Int) ((c.toNat : Nat) : Int) (i : Int) _ _ all = _
      rw [ref03_Mul_s n K i h1 hi c A all _ hA, hb]
    · exact ss.2.symm
    · show List.getD (Vector.toList (Vector.setIfInBounds all i _)) j false = _
      rw [vget_set _ _ _ _ _ hi]
      by_cases e : i = j
      · subst e
        rw [if_pos rfl, if_pos (by omega), ss.1]
      · rw [if_neg e, h3 j hj]
        by_cases d : j < i
        · rw [if_pos d, if_pos (by omega)]
        · rw [if_neg d, if_neg (by omega)]
  · rintro ⟨c, all⟩ ⟨h1, h2, h3⟩
    simp only at h2 h3
    refine Ev.step (fun k => ?_) (fin all fun j hj => by rw [h3 j hj, if_pos hj])
    show ref03_Mul_h2 (k + 1) n (K : Int) ((c.toNat : Nat) : Int) _ _ _ all = _
    rw [ref03_Mul_h2_q, bif_neg (by omega), w64_id (by omega) (by omega)]
  · refine ⟨Nat.le_refl _, ?_, fun j hj => ?_⟩
    · show false = _
      rw [Nat.mul_mod_left]
      have := Nat.mod_lt V (Nat.two_pow_pos K)
      exact (decide_eq_false (by omega)).symm
    · show List.getD (Vector.toList all0) j false = _
      rw [h0 j hj]
      by_cases d : j < K
      · rw [if_pos d, Nat.add_comm, Nat.mul_comm A]
        have := Nat.testBit_two_pow_mul_add A (i := K) (b := V % 2 ^ K) (Nat.mod_lt _ (Nat.two_pow_pos K)) j
        have e : 2 ^ K * A + V = 2 ^ K * (A + V / 2 ^ K) + V % 2 ^ K := by
          have := Nat.div_add_mod V (2 ^ K)
          rw [Nat.mul_add]; omega
        rw [e, Nat.testBit_two_pow_mul_add _ (Nat.mod_lt _ (Nat.two_pow_pos K)), if_pos d, Nat.testBit_mod_two_pow, decide_eq_true d, Bool.true_and]
      · rw [if_neg d]
theorem ref03_Mul_l4 (P : Nat) (hP : P < 2 ^ 256 * 2 ^ 64) (all : Vector Bool 320) (h : ∀ j, j < 320 → List.getD (Vector.toList all) j false = P.testBit j) :
    Ev (fun k => ref03_Mul_h4 k 0 (Vector.replicate 4 0) all (Vector.replicate 256 false)) (uW P, UInt64.ofNat (P / 115792089237316195423570985008687907853269984665640564039457584007913129639936)) := by
  refine Ev.inv (H := fun k i low => ref03_Mul_h4 k i (Vector.replicate 4 0) all low) (n := 256)
    (fun i low => ∀ j, j < i → List.getD (Vector.toList low) j false = P.testBit j) ?_ ?_ 256 0 _ rfl (fun j hj => by omega)
  · intro i low hi hv next
    refine Ev.step (fun k => ?_) (next (Vector.setIfInBounds low i (P.testBit i)) fun j hj => ?_)
    · rw [ref03_Mul_h4_q, bif_pos (by omega), if_pos (by omega), if_pos (by omega), Int.toNat_natCast, h i (by omega), w64_id (by omega) (by omega)]
    · rw [vget_set _ _ _ _ _ hi]
      by_cases e : i = j
      · subst e; rw [if_pos rfl]
      · rw [if_neg e, hv j (by omega)]
  · intro low hv
    have elow : uW (bV low) = uW P := by
      refine u_bit_ext fun j hj => ?_
      rw [uW_bit, uW_bit, bV_bit, hv j hj]
    have := Ev.dwn (H := fun k i (high : UInt64) => ref03_Mul_h6 k high (i + 256) (Vector.replicate 4 0) all low) (n := 64) (r := (uW P, UInt64.ofNat (P / 115792089237316195423570985008687907853269984665640564039457584007913129639936)))
      (fun i high => high.toNat = P / (2 ^ 256 * 2 ^ i)) ?_ ?_ 64 0 (Nat.le_refl _) ?_
    · refine Ev.step (fun k => ?_) this
      show ref03_Mul_h4 (k + 1) _ _ _ _ = _
      rw [ref03_Mul_h4_q, bif_neg (by omega)]
      rfl
    · intro i high hi hh nx
      have hb := bit_split P (256 + i)
      rw [show 256 + i + 1 = 256 + (i + 1) by omega, Nat.pow_add, Nat.pow_add 2 256 (i + 1), ← hh] at hb
      have hlt : P / (2 ^ 256 * 2 ^ i) < 2 ^ 64 := by
        rw [Nat.div_lt_iff_lt_mul (Nat.mul_pos (Nat.two_pow_pos _) (Nat.two_pow_pos _))]
        have h3 : 2 ^ 256 ≤ 2 ^ 256 * 2 ^ i := Nat.le_mul_of_pos_right _ (Nat.two_pow_pos i)
        have h4 := Nat.mul_le_mul_left (2 ^ 64) h3
        rw [Nat.mul_comm] at hP
        exact Nat.lt_of_lt_of_le hP h4
      have e2 : ∀ b : Nat, b ≤ 1 → P / (2 ^ 256 * 2 ^ i) = 2 * high.toNat + b → (2 * high).toNat = 2 * high.toNat := by
        intro b _ e
        rw [UInt64.toNat_mul, show (2 : UInt64).toNat = 2 from rfl]
        omega
      have ha := h (256 + i) (by omega)
      cases hx : P.testBit (256 + i) with
      | true =>
        rw [hx] at hb ha
        rw [Bool.toNat_true] at hb
        refine Ev.step (fun k => ?_) (nx (2 * high + 1) ?_)
        · show ref03_Mul_h6 (k + 1) high ((i : Int) + 256) _ all low = ref03_Mul_h6 k _ ((i : Int) - 1 + 256) _ all low
          rw [ref03_Mul_h6_q, bif_pos (by omega), if_pos (by omega), show Int.toNat ((i : Int) + 256) = 256 + i by omega, ha, cond_true, w64_id (by omega) (by omega), show (i : Int) + 256 - 1 = (i : Int) - 1 + 256 by omega]
        · rw [UInt64.toNat_add, e2 1 (by omega) hb, show (1 : UInt64).toNat = 1 from rfl]
          omega
      | false =>
        rw [hx] at hb ha
        rw [Bool.toNat_false] at hb
        refine Ev.step (fun k => ?_) (nx (2 * high) ?_)
        · show ref03_Mul_h6 (k + 1) high ((i : Int) + 256) _ all low = ref03_Mul_h6 k _ ((i : Int) - 1 + 256) _ all low
          rw [ref03_Mul_h6_q, bif_pos (by omega), if_pos (by omega), show Int.toNat ((i : Int) + 256) = 256 + i by omega, ha, cond_false, w64_id (by omega) (by omega), show (i : Int) + 256 - 1 = (i : Int) - 1 + 256 by omega]
        · rw [e2 0 (by omega) hb]
          omega
    · intro high hh
      refine Ev.done fun k => ?_
      show ref03_Mul_h6 (k + 1) high _ _ all low = _
      rw [ref03_Mul_h6_q, bif_neg (by omega), elow]
      rw [Nat.pow_zero, Nat.mul_one, two256] at hh
      rw [← hh, UInt64.ofNat_toNat]
    · show (0 : UInt64).toNat = _
      rw [Nat.div_eq_of_lt hP]
      rfl
theorem ref03_Mul_spec (a : Vector UInt64 4) (n : UInt64) : ∃ k, ref03_Mul k a n = some (uW (uV a * n.toNat), mulC a n) := by
  show Ev (fun k => ref03_Mul k a n) _
  rw [mulC_eq]
  refine Ev.same (fun k => ref03_Mul_q k a n) ?_
  have hA : uV a < 2 ^ 256 := by rw [two256]; exact uV_lt a
  have hn : n.toNat < 2 ^ 64 := n.toNat_lt
  refine Ev.inv (H := fun k i (s : UInt64 × Vector Bool 320) => ref03_Mul_h0 k s.1 i (Vector.replicate 4 0) (bitsV (uV a)) s.2) (n := 64)
    (fun i s => s.1.toNat = n.toNat / 2 ^ i ∧ ∀ j, j < 320 → List.getD (Vector.toList s.2) j false = (uV a * (n.toNat % 2 ^ i)).testBit j) ?_ ?_ 64 0 (n, _) rfl ?_
  · rintro i ⟨m, all⟩ hi ⟨h1, h2⟩ next
    simp only at h1 h2 next
    have hb := bit_split n.toNat i
    have hm := mod_succ n.toNat i
    have hx := bit_nat n.toNat i
    have e1 : (m / 2).toNat = n.toNat / 2 ^ (i + 1) := by
      rw [UInt64.toNat_div, h1, Nat.pow_succ, ← Nat.div_div_eq_div_mul]
      rfl
    have e2 : (m % 2 = 0) ↔ n.toNat.testBit i = false := by
      rw [← UInt64.toNat_inj, UInt64.toNat_mod, h1, show (2 : UInt64).toNat = 2 from rfl, show (0 : UInt64).toNat = 0 from rfl, ← hx]
      cases n.toNat.testBit i <;> simp
    by_cases c : m % 2 = 0
    · have cb := e2.1 c
      refine Ev.step (fun k => ?_) (next (m / 2, all) ⟨e1, fun j hj => ?_⟩)
      · show ref03_Mul_h0 (k + 1) m _ _ _ all = _
        rw [ref03_Mul_h0_q, bif_pos (by omega), bif_pos c, w64_id (by omega) (by omega)]
      · show List.getD (Vector.toList all) j false = _
        rw [cb, Bool.toNat_false, Nat.mul_zero] at hm
        rw [h2 j hj, hm, Nat.add_zero]
    · have cb : n.toNat.testBit i = true := by
        cases h : n.toNat.testBit i
        · exact absurd (e2.2 h) c
        · rfl
      refine Ev.step (fun k => ?_) (ref03_Mul_l2 (m / 2) i hi (uV a) (uV a * (n.toNat % 2 ^ i)) hA all h2 _ fun all' h3 => next (m / 2, all') ⟨e1, fun j hj => ?_⟩)
      · show ref03_Mul_h0 (k + 1) m _ _ _ all = _
        rw [ref03_Mul_h0_q, bif_pos (by omega), bif_neg c]
      · show List.getD (Vector.toList all') j false = _
        rw [cb, Bool.toNat_true, Nat.mul_one] at hm
        rw [h3 j hj, hm, Nat.mul_add]
  · rintro ⟨m, all⟩ ⟨h1, h2⟩
    simp only at h1 h2
    rw [Nat.mod_eq_of_lt hn] at h2
    have hP : uV a * n.toNat < 2 ^ 256 * 2 ^ 64 := Nat.mul_lt_mul'' hA hn
    refine Ev.step (fun k => ?_) (ref03_Mul_l4 (uV a * n.toNat) hP all h2)
    show ref03_Mul_h0 (k + 1) m _ _ _ all = _
    rw [ref03_Mul_h0_q, bif_neg (by omega)]
  · refine ⟨?_, fun j hj => ?_⟩
    · show n.toNat = _
      rw [Nat.pow_zero, Nat.div_one]
    · show List.getD (Vector.toList (Vector.replicate 320 false)) j false = _
      rw [vget_rep, Nat.pow_zero, Nat.mod_one, Nat.mul_zero, Nat.zero_testBit]

end
end Go.Proofs.Ytepcjobghbanmaa.M

namespace Go.Proofs.Ytepcjobghbanmaa.M
open Go
noncomputable section
/-- moneyer/moneyerref03.Add -/
def ref03_Add (a : Vector UInt64 4) (b : Vector UInt64 4) : Vector UInt64 4 × Bool :=
  ((uW (bV (bitsV (((bV (bitsV (uV a))) + (bV (bitsV (uV b)))) + (Bool.toNat false))))), (decide ((115792089237316195423570985008687907853269984665640564039457584007913129639936 : Nat) ≤ (((bV (bitsV (uV a))) + (bV (bitsV (uV b)))) + (Bool.toNat false)))))
theorem ref03_Add_q (a : Vector UInt64 4) (b : Vector UInt64 4) : ref03_Add a b = (((uW (bV (bitsV (((bV (bitsV (uV a))) + (bV (bitsV (uV b)))) + (Bool.toNat false))))), (decide ((115792089237316195423570985008687907853269984665640564039457584007913129639936 : Nat) ≤ (((bV (bitsV (uV a))) + (bV (bitsV (uV b)))) + (Bool.toNat false)))))) := by kernel_rfl
theorem bV_bitsU (a : Vector UInt64 4) : bV (bitsV (uV a)) = uV a := by
  rw [bV_bitsV, two256, Nat.mod_eq_of_lt (uV_lt a)]
theorem ref03_Add_spec0 (a b : Vector UInt64 4) : ref03_Add a b = addS a b := by
  rw [ref03_Add]
  simp only [bV_bitsU, Bool.toNat_false, Nat.add_zero]
  rw [bV_bitsV, two256, uW_mod]
  rfl

theorem ref03_Add_spec (a b : Vector UInt64 4) : ref03_Add a b = (addV a b, addB a b) := by
  rw [← addS_eq]
  exact ref03_Add_spec0 a b

end
end Go.Proofs.Ytepcjobghbanmaa.M

namespace Go.Proofs.Ytepcjobghbanmaa.M
open Go
noncomputable section
set_option maxRecDepth 100000
set_option maxHeartbeats 0
noncomputable def ref03_OfHash_T : Tbl := []
noncomputable def ref03_OfHash_C : CfgW := mkC Try.prog noG ref03_OfHash_T 23 0 false
def ref03_OfHash_lv : Nat → List Nat := fun i => bif Nat.beq i 0 then [1, 2, 3, 4] else []
noncomputable abbrev ref03_OfHash_b : Code := Try.f31.body.getD .skip
noncomputable abbrev ref03_OfHash_r : List ResultVar := Try.f31.results.toList
def ref03_OfHash_hs : List Nat := []

def ref03_OfHash_enc (r : Vector UInt64 4) : CallOut := ⟨.pv (.arr .u64 4 r), [], true, []⟩
def ref03_OfHash_s0 (i : Int) (h_ : Vector UInt8 32) (t2 : Vector UInt64 4) (a : Vector UInt64 4) : St := ⟨[(1, .p 60000 []), (2, .p 60001 []), (3, .p 60002 []), (4, .pv (.sc .i i))], [(60000, .box (.pv (.arr .u8 32 h_))), (60001, .box (.pv (.arr .u64 4 t2))), (60002, .box (.pv (.arr .u64 4 a)))]⟩
theorem ref03_OfHash_g0 (i : Int) (h_ : Vector UInt8 32) (t2 : Vector UInt64 4) (a : Vector UInt64 4) (Q : CallOut → Prop) : headRound ref03_OfHash_C ref03_OfHash_lv [true, true, false, true, false] ref03_OfHash_b (ref03_OfHash_s0 i h_ t2 a) (fnK ref03_OfHash_C ref03_OfHash_r ref03_OfHash_hs Q) =
    (condP (decide ((0 : Int) ≤ i)) (((8 : Int) ≠ (0 : Int)) ∧ (((8 : Int) ≠ (0 : Int)) ∧ ((((0 : Int) ≤ (w64 (Int.tdiv i (8 : Int)))) ∧ ((w64 (Int.tdiv i (8 : Int))) < (4 : Int))) ∧ ((((0 : Int) ≤ i) ∧ (i < (32 : Int))) ∧ ((((0 : Int) ≤ (w64 (Int.tdiv i (8 : Int)))) ∧ ((w64 (Int.tdiv i (8 : Int))) < (4 : Int))) ∧ (headP ref03_OfHash_C ref03_OfHash_lv [true, true, false, true, false] ref03_OfHash_b (ref03_OfHash_s0 (w64 (i - (1 : Int))) h_ t2 (Vector.setIfInBounds a (Int.toNat (w64 (Int.tdiv i (8 : Int)))) (((256 : UInt64) * (List.getD (Vector.toList a) (Int.toNat (w64 (Int.tdiv i (8 : Int)))) (0 : UInt64))) + (UInt8.toUInt64 (List.getD (Vector.toList h_) (Int.toNat i) (0 : UInt8)))))) (fnK ref03_OfHash_C ref03_OfHash_r ref03_OfHash_hs Q))))))) (Q (ref03_OfHash_enc a))) := by kernel_rfl
theorem ref03_OfHash_k0 {r : Vector UInt64 4} {Q : CallOut → Prop} (hQ : Q (ref03_OfHash_enc r)) : ∀ k : Nat, (∀ (i : Int) (h_ : Vector UInt8 32) (t2 : Vector UInt64 4) (a : Vector UInt64 4), ref03_OfHash_h0 k i h_ t2 a = some r → headP ref03_OfHash_C ref03_OfHash_lv [true, true, false, true, false] ref03_OfHash_b (ref03_OfHash_s0 i h_ t2 a) (fnK ref03_OfHash_C ref03_OfHash_r ref03_OfHash_hs Q))
  | 0 => fun _ _ _ _ h => no_ok h
  | k + 1 => fun i h_ t2 a h => headP_step (Eq.mpr (ref03_OfHash_g0 i h_ t2 a Q) (have h := (ref03_OfHash_h0_q k i h_ t2 a).symm.trans h; cond_ok h (fun h => ⟨by decide +kernel, ⟨by decide +kernel, ite_ok h fun hc0 h => ite_ok h fun hc1 h => ⟨hc0, (ref03_OfHash_k0 hQ k) _ _ _ _ h⟩⟩⟩) (fun h => ret_ok (Q := Q) (e := ref03_OfHash_enc) h hQ)))
theorem ref03_OfHash_e (h_0 : Vector UInt8 32) (Q : CallOut → Prop) : evalFnP ref03_OfHash_C ref03_OfHash_lv ref03_OfHash_r ref03_OfHash_hs ref03_OfHash_b [.pv (.arr .u8 32 h_0)] [] Q =
    (headP ref03_OfHash_C ref03_OfHash_lv [true, true, false, true, false] ref03_OfHash_b (ref03_OfHash_s0 (31 : Int) h_0 (Vector.replicate (4 : Nat) (0 : UInt64)) (Vector.replicate (4 : Nat) (0 : UInt64))) (fnK ref03_OfHash_C ref03_OfHash_r ref03_OfHash_hs Q)) := by kernel_rfl
theorem ref03_OfHash_w {k : Nat} (h_0 : Vector UInt8 32) {r} {Q : CallOut → Prop} (h : ref03_OfHash k h_0 = some r) (hQ : Q (ref03_OfHash_enc r)) : evalFnP ref03_OfHash_C ref03_OfHash_lv ref03_OfHash_r ref03_OfHash_hs ref03_OfHash_b [.pv (.arr .u8 32 h_0)] [] Q :=
  Eq.mpr (ref03_OfHash_e h_0 Q) (have h := (ref03_OfHash_q k h_0).symm.trans h; (ref03_OfHash_k0 hQ _) _ _ _ _ h)
def ref03_OfHash_c : Ans
  | [.pv (.arr .u8 32 h_0)], [] => some (none, ref03_OfHash_enc (hashU h_0))
  | _, _ => none
theorem ref03_OfHash_tok : TblOK Try.prog noG ref03_OfHash_T := .nil
theorem ref03_OfHash_ok : FnOK Try.prog noG 31 (unW ref03_OfHash_c) := by
  refine FnOK.ofC (T := ref03_OfHash_T) (nt := 23) (np := 0) (nf := false) (hs := ref03_OfHash_hs) (fn := Try.f31) (body := ref03_OfHash_b) ref03_OfHash_tok (by kernel_rfl) (by kernel_rfl) (by kernel_rfl) (by kernel_rfl) (c := ref03_OfHash_c) (lv := ref03_OfHash_lv) ?_
  intro xs mem p out h hp
  unfold ref03_OfHash_c at h
  split at h
  · cases h
    obtain ⟨k, hk⟩ := ref03_OfHash_spec _
    exact ref03_OfHash_w _ hk rfl
  · cases h
end
end Go.Proofs.Ytepcjobghbanmaa.M

namespace Go.Proofs.Ytepcjobghbanmaa.M
open Go
noncomputable section
set_option maxRecDepth 100000
set_option maxHeartbeats 0
noncomputable def ref03_Of_T : Tbl := []
noncomputable def ref03_Of_C : CfgW := mkC Try.prog noG ref03_Of_T 7 0 false
def ref03_Of_lv : Nat → List Nat := fun i => []
noncomputable abbrev ref03_Of_b : Code := Try.f29.body.getD .skip
noncomputable abbrev ref03_Of_r : List ResultVar := Try.f29.results.toList
def ref03_Of_hs : List Nat := []

def ref03_Of_enc (r : Vector UInt64 4) : CallOut := ⟨.pv (.arr .u64 4 r), [], true, []⟩
theorem ref03_Of_e (n : UInt64) (Q : CallOut → Prop) : evalFnP ref03_Of_C ref03_Of_lv ref03_Of_r ref03_Of_hs ref03_Of_b [.pv (.sc .u64 n)] [] Q =
    ((((0 : Int) ≤ (0 : Int)) ∧ ((0 : Int) < (4 : Int))) ∧ (Q (ref03_Of_enc (Vector.setIfInBounds (Vector.replicate (4 : Nat) (0 : UInt64)) (0 : Nat) n)))) := by kernel_rfl
theorem ref03_Of_w (n : UInt64) {Q : CallOut → Prop} (h : Q (ref03_Of_enc (ref03_Of n))) : evalFnP ref03_Of_C ref03_Of_lv ref03_Of_r ref03_Of_hs ref03_Of_b [.pv (.sc .u64 n)] [] Q :=
  Eq.mpr (ref03_Of_e n Q) (have h := Eq.mp (congrArg (fun r => Q (ref03_Of_enc r)) (ref03_Of_q n)) h; ⟨by decide +kernel, h⟩)
def ref03_Of_c : Ans
  | [.pv (.sc .u64 n)], [] => some (none, ref03_Of_enc (uW n.toNat))
  | _, _ => none
theorem ref03_Of_tok : TblOK Try.prog noG ref03_Of_T := .nil
theorem ref03_Of_ok : FnOK Try.prog noG 29 (unW ref03_Of_c) := by
  refine FnOK.ofC (T := ref03_Of_T) (nt := 7) (np := 0) (nf := false) (hs := ref03_Of_hs) (fn := Try.f29) (body := ref03_Of_b) ref03_Of_tok (by kernel_rfl) (by kernel_rfl) (by kernel_rfl) (by kernel_rfl) (c := ref03_Of_c) (lv := ref03_Of_lv) ?_
  intro xs mem p out h hp
  unfold ref03_Of_c at h
  split at h
  · cases h
    exact ref03_Of_w _ (congrArg ref03_Of_enc (ref03_Of_spec _))
  · cases h
end
end Go.Proofs.Ytepcjobghbanmaa.M

namespace Go.Proofs.Ytepcjobghbanmaa.M
open Go
noncomputable section
set_option maxRecDepth 100000
set_option maxHeartbeats 0
noncomputable def ref03_ToHash_T : Tbl := []
noncomputable def ref03_ToHash_C : CfgW := mkC Try.prog noG ref03_ToHash_T 26 0 false
def ref03_ToHash_lv : Nat → List Nat := fun i => bif Nat.beq i 0 then [1, 2, 3, 4] else []
noncomputable abbrev ref03_ToHash_b : Code := Try.f33.body.getD .skip
noncomputable abbrev ref03_ToHash_r : List ResultVar := Try.f33.results.toList
def ref03_ToHash_hs : List Nat := []

def ref03_ToHash_enc (r : Vector UInt8 32) : CallOut := ⟨.pv (.arr .u8 32 r), [], true, []⟩
def ref03_ToHash_s0 (i : Int) (a : Vector UInt64 4) (t2 : Vector UInt8 32) (h_ : Vector UInt8 32) : St := ⟨[(1, .p 60000 []), (2, .p 60001 []), (3, .p 60002 []), (4, .pv (.sc .i i))], [(60000, .box (.pv (.arr .u64 4 a))), (60001, .box (.pv (.arr .u8 32 t2))), (60002, .box (.pv (.arr .u8 32 h_)))]⟩
theorem ref03_ToHash_g0 (i : Int) (a : Vector UInt64 4) (t2 : Vector UInt8 32) (h_ : Vector UInt8 32) (Q : CallOut → Prop) : headRound ref03_ToHash_C ref03_ToHash_lv [true, true, false, true, false] ref03_ToHash_b (ref03_ToHash_s0 i a t2 h_) (fnK ref03_ToHash_C ref03_ToHash_r ref03_ToHash_hs Q) =
    (condP (decide (i < (32 : Int))) (((8 : Int) ≠ (0 : Int)) ∧ ((((0 : Int) ≤ (w64 (Int.tdiv i (8 : Int)))) ∧ ((w64 (Int.tdiv i (8 : Int))) < (4 : Int))) ∧ (((256 : UInt64) ≠ (0 : UInt64)) ∧ ((((0 : Int) ≤ i) ∧ (i < (32 : Int))) ∧ (((8 : Int) ≠ (0 : Int)) ∧ (((8 : Int) ≠ (0 : Int)) ∧ ((((0 : Int) ≤ (w64 (Int.tdiv i (8 : Int)))) ∧ ((w64 (Int.tdiv i (8 : Int))) < (4 : Int))) ∧ (((256 : UInt64) ≠ (0 : UInt64)) ∧ ((((0 : Int) ≤ (w64 (Int.tdiv i (8 : Int)))) ∧ ((w64 (Int.tdiv i (8 : Int))) < (4 : Int))) ∧ (headP ref03_ToHash_C ref03_ToHash_lv [true, true, false, true, false] ref03_ToHash_b (ref03_ToHash_s0 (w64 (i + (1 : Int))) (Vector.setIfInBounds a (Int.toNat (w64 (Int.tdiv i (8 : Int)))) ((List.getD (Vector.toList a) (Int.toNat (w64 (Int.tdiv i (8 : Int)))) (0 : UInt64)) / (256 : UInt64))) t2 (Vector.setIfInBounds h_ (Int.toNat i) (UInt64.toUInt8 ((List.getD (Vector.toList a) (Int.toNat (w64 (Int.tdiv i (8 : Int)))) (0 : UInt64)) % (256 : UInt64))))) (fnK ref03_ToHash_C ref03_ToHash_r ref03_ToHash_hs Q))))))))))) (Q (ref03_ToHash_enc h_))) := by kernel_rfl
theorem ref03_ToHash_k0 {r : Vector UInt8 32} {Q : CallOut → Prop} (hQ : Q (ref03_ToHash_enc r)) : ∀ k : Nat, (∀ (i : Int) (a : Vector UInt64 4) (t2 : Vector UInt8 32) (h_ : Vector UInt8 32), ref03_ToHash_h0 k i a t2 h_ = some r → headP ref03_ToHash_C ref03_ToHash_lv [true, true, false, true, false] ref03_ToHash_b (ref03_ToHash_s0 i a t2 h_) (fnK ref03_ToHash_C ref03_ToHash_r ref03_ToHash_hs Q))
  | 0 => fun _ _ _ _ h => no_ok h
  | k + 1 => fun i a t2 h_ h => headP_step (Eq.mpr (ref03_ToHash_g0 i a t2 h_ Q) (have h := (ref03_ToHash_h0_q k i a t2 h_).symm.trans h; cond_ok h (fun h => ⟨by decide +kernel, ite_ok h fun hc0 h => ⟨by decide +kernel, ite_ok h fun hc1 h => ⟨by decide +kernel, ⟨by decide +kernel, ⟨hc0, ⟨by decide +kernel, ⟨hc0, (ref03_ToHash_k0 hQ k) _ _ _ _ h⟩⟩⟩⟩⟩⟩⟩) (fun h => ret_ok (Q := Q) (e := ref03_ToHash_enc) h hQ)))
theorem ref03_ToHash_e (a : Vector UInt64 4) (Q : CallOut → Prop) : evalFnP ref03_ToHash_C ref03_ToHash_lv ref03_ToHash_r ref03_ToHash_hs ref03_ToHash_b [.pv (.arr .u64 4 a)] [] Q =
    (headP ref03_ToHash_C ref03_ToHash_lv [true, true, false, true, false] ref03_ToHash_b (ref03_ToHash_s0 (0 : Int) a (Vector.replicate (32 : Nat) (0 : UInt8)) (Vector.replicate (32 : Nat) (0 : UInt8))) (fnK ref03_ToHash_C ref03_ToHash_r ref03_ToHash_hs Q)) := by kernel_rfl
theorem ref03_ToHash_w {k : Nat} (a : Vector UInt64 4) {r} {Q : CallOut → Prop} (h : ref03_ToHash k a = some r) (hQ : Q (ref03_ToHash_enc r)) : evalFnP ref03_ToHash_C ref03_ToHash_lv ref03_ToHash_r ref03_ToHash_hs ref03_ToHash_b [.pv (.arr .u64 4 a)] [] Q :=
  Eq.mpr (ref03_ToHash_e a Q) (have h := (ref03_ToHash_q k a).symm.trans h; (ref03_ToHash_k0 hQ _) _ _ _ _ h)
def ref03_ToHash_c : Ans
  | [.pv (.arr .u64 4 a)], [] => some (none, ref03_ToHash_enc (hashV (uV a)))
  | _, _ => none
theorem ref03_ToHash_tok : TblOK Try.prog noG ref03_ToHash_T := .nil
theorem ref03_ToHash_ok : FnOK Try.prog noG 33 (unW ref03_ToHash_c) := by
  refine FnOK.ofC (T := ref03_ToHash_T) (nt := 26) (np := 0) (nf := false) (hs := ref03_ToHash_hs) (fn := Try.f33) (body := ref03_ToHash_b) ref03_ToHash_tok (by kernel_rfl) (by kernel_rfl) (by kernel_rfl) (by kernel_rfl) (c := ref03_ToHash_c) (lv := ref03_ToHash_lv) ?_
  intro xs mem p out h hp
  unfold ref03_ToHash_c at h
  split at h
  · cases h
    obtain ⟨k, hk⟩ := ref03_ToHash_spec _
    exact ref03_ToHash_w _ hk rfl
  · cases h
end
end Go.Proofs.Ytepcjobghbanmaa.M

namespace Go.Proofs.Ytepcjobghbanmaa.M
open Go
noncomputable section
set_option maxRecDepth 100000
set_option maxHeartbeats 0
noncomputable def ref03_Bits_T : Tbl := []
noncomputable def ref03_Bits_C : CfgW := mkC Try.prog noG ref03_Bits_T 29 0 false
def ref03_Bits_lv : Nat → List Nat := fun i => bif Nat.beq i 2 then [1, 2, 3, 4, 5, 6] else bif Nat.beq i 0 then [1, 2, 3, 4] else []
noncomputable abbrev ref03_Bits_b : Code := Try.f54.body.getD .skip
noncomputable abbrev ref03_Bits_r : List ResultVar := Try.f54.results.toList
def ref03_Bits_hs : List Nat := []

def ref03_Bits_enc (r : Vector Bool 256) : CallOut := ⟨.pv (.arr .b 256 r), [], true, []⟩
def ref03_Bits_s0 (i : Int) (a : Vector UInt64 4) (t2 : Vector Bool 256) (l : Vector Bool 256) : St := ⟨[(1, .p 60000 []), (2, .p 60001 []), (3, .p 60002 []), (4, .pv (.sc .i i))], [(60000, .box (.pv (.arr .u64 4 a))), (60001, .box (.pv (.arr .b 256 t2))), (60002, .box (.pv (.arr .b 256 l)))]⟩
def ref03_Bits_s2 (i : Int) (n : UInt64) (k_ : Int) (a : Vector UInt64 4) (t2 : Vector Bool 256) (l : Vector Bool 256) : St := ⟨[(1, .p 60000 []), (2, .p 60001 []), (3, .p 60002 []), (4, .pv (.sc .i i)), (5, .pv (.sc .u64 n)), (6, .pv (.sc .i k_))], [(60000, .box (.pv (.arr .u64 4 a))), (60001, .box (.pv (.arr .b 256 t2))), (60002, .box (.pv (.arr .b 256 l)))]⟩
theorem ref03_Bits_g0 (i : Int) (a : Vector UInt64 4) (t2 : Vector Bool 256) (l : Vector Bool 256) (Q : CallOut → Prop) : headRound ref03_Bits_C ref03_Bits_lv [true, true, false, true, false] ref03_Bits_b (ref03_Bits_s0 i a t2 l) (fnK ref03_Bits_C ref03_Bits_r ref03_Bits_hs Q) =
    (condP (decide (i < (256 : Int))) (((64 : Int) ≠ (0 : Int)) ∧ ((((0 : Int) ≤ (w64 (Int.tdiv i (64 : Int)))) ∧ ((w64 (Int.tdiv i (64 : Int))) < (4 : Int))) ∧ (headP ref03_Bits_C ref03_Bits_lv [true, true, false, true, false, false, true, false, false, true, false, true, false] ref03_Bits_b (ref03_Bits_s2 i (List.getD (Vector.toList a) (Int.toNat (w64 (Int.tdiv i (64 : Int)))) (0 : UInt64)) (0 : Int) a t2 l) (fnK ref03_Bits_C ref03_Bits_r ref03_Bits_hs Q)))) (Q (ref03_Bits_enc l))) := by kernel_rfl
theorem ref03_Bits_g2 (i : Int) (n : UInt64) (k_ : Int) (a : Vector UInt64 4) (t2 : Vector Bool 256) (l : Vector Bool 256) (Q : CallOut → Prop) : headRound ref03_Bits_C ref03_Bits_lv [true, true, false, true, false, false, true, false, false, true, false, true, false] ref03_Bits_b (ref03_Bits_s2 i n k_ a t2 l) (fnK ref03_Bits_C ref03_Bits_r ref03_Bits_hs Q) =
    (((64 : Int) ≠ (0 : Int)) ∧ (condP (decide (k_ < (Int.tmod i (64 : Int)))) (((2 : UInt64) ≠ (0 : UInt64)) ∧ (headP ref03_Bits_C ref03_Bits_lv [true, true, false, true, false, false, true, false, false, true, false, true, false] ref03_Bits_b (ref03_Bits_s2 i (n / (2 : UInt64)) (w64 (k_ + (1 : Int))) a t2 l) (fnK ref03_Bits_C ref03_Bits_r ref03_Bits_hs Q))) (((2 : UInt64) ≠ (0 : UInt64)) ∧ ((((0 : Int) ≤ i) ∧ (i < (256 : Int))) ∧ (headP ref03_Bits_C ref03_Bits_lv [true, true, false, true, false] ref03_Bits_b (ref03_Bits_s0 (w64 (i + (1 : Int))) a t2 (Vector.setIfInBounds l (Int.toNat i) (decide ((n % (2 : UInt64)) = (1 : UInt64))))) (fnK ref03_Bits_C ref03_Bits_r ref03_Bits_hs Q)))))) := by kernel_rfl
theorem ref03_Bits_k0 {r : Vector Bool 256} {Q : CallOut → Prop} (hQ : Q (ref03_Bits_enc r)) : ∀ k : Nat, (∀ (i : Int) (a : Vector UInt64 4) (t2 : Vector Bool 256) (l : Vector Bool 256), ref03_Bits_h0 k i a t2 l = some r → headP ref03_Bits_C ref03_Bits_lv [true, true, false, true, false] ref03_Bits_b (ref03_Bits_s0 i a t2 l) (fnK ref03_Bits_C ref03_Bits_r ref03_Bits_hs Q)) ∧ (∀ (i : Int) (n : UInt64) (k_ : Int) (a : Vector UInt64 4) (t2 : Vector Bool 256) (l : Vector Bool 256), ref03_Bits_h2 k i n k_ a t2 l = some r → headP ref03_Bits_C ref03_Bits_lv [true, true, false, true, false, false, true, false, false, true, false, true, false] ref03_Bits_b (ref03_Bits_s2 i n k_ a t2 l) (fnK ref03_Bits_C ref03_Bits_r ref03_Bits_hs Q))
  | 0 => ⟨fun _ _ _ _ h => no_ok h, fun _ _ _ _ _ _ h => no_ok h⟩
  | k + 1 => ⟨fun i a t2 l h => headP_step (Eq.mpr (ref03_Bits_g0 i a t2 l Q) (have h := (ref03_Bits_h0_q k i a t2 l).symm.trans h; cond_ok h (fun h => ⟨by decide +kernel, ite_ok h fun hc0 h => (ref03_Bits_k0 hQ k).2 _ _ _ _ _ _ h⟩) (fun h => ret_ok (Q := Q) (e := ref03_Bits_enc) h hQ))),
    fun i n k_ a t2 l h => headP_step (Eq.mpr (ref03_Bits_g2 i n k_ a t2 l Q) (have h := (ref03_Bits_h2_q k i n k_ a t2 l).symm.trans h; ⟨by decide +kernel, cond_ok h (fun h => ⟨by decide +kernel, (ref03_Bits_k0 hQ k).2 _ _ _ _ _ _ h⟩) (fun h => ⟨by decide +kernel, ite_ok h fun hc0 h => (ref03_Bits_k0 hQ k).1 _ _ _ _ h⟩)⟩))⟩
theorem ref03_Bits_e (a : Vector UInt64 4) (Q : CallOut → Prop) : evalFnP ref03_Bits_C ref03_Bits_lv ref03_Bits_r ref03_Bits_hs ref03_Bits_b [.pv (.arr .u64 4 a)] [] Q =
    (headP ref03_Bits_C ref03_Bits_lv [true, true, false, true, false] ref03_Bits_b (ref03_Bits_s0 (0 : Int) a (Vector.replicate (256 : Nat) false) (Vector.replicate (256 : Nat) false)) (fnK ref03_Bits_C ref03_Bits_r ref03_Bits_hs Q)) := by kernel_rfl
theorem ref03_Bits_w {k : Nat} (a : Vector UInt64 4) {r} {Q : CallOut → Prop} (h : ref03_Bits k a = some r) (hQ : Q (ref03_Bits_enc r)) : evalFnP ref03_Bits_C ref03_Bits_lv ref03_Bits_r ref03_Bits_hs ref03_Bits_b [.pv (.arr .u64 4 a)] [] Q :=
  Eq.mpr (ref03_Bits_e a Q) (have h := (ref03_Bits_q k a).symm.trans h; (ref03_Bits_k0 hQ _).1 _ _ _ _ h)
def ref03_Bits_c : Ans
  | [.pv (.arr .u64 4 a)], [] => some (none, ref03_Bits_enc (bitsV (uV a)))
  | _, _ => none
theorem ref03_Bits_tok : TblOK Try.prog noG ref03_Bits_T := .nil
theorem ref03_Bits_ok : FnOK Try.prog noG 54 (unW ref03_Bits_c) := by
  refine FnOK.ofC (T := ref03_Bits_T) (nt := 29) (np := 0) (nf := false) (hs := ref03_Bits_hs) (fn := Try.f54) (body := ref03_Bits_b) ref03_Bits_tok (by kernel_rfl) (by kernel_rfl) (by kernel_rfl) (by kernel_rfl) (c := ref03_Bits_c) (lv := ref03_Bits_lv) ?_
  intro xs mem p out h hp
  unfold ref03_Bits_c at h
  split at h
  · cases h
    obtain ⟨k, hk⟩ := ref03_Bits_spec _
    exact ref03_Bits_w _ hk rfl
  · cases h
end
end Go.Proofs.Ytepcjobghbanmaa.M

namespace Go.Proofs.Ytepcjobghbanmaa.M
open Go
noncomputable section
set_option maxRecDepth 100000
set_option maxHeartbeats 0
noncomputable def ref03_Number_T : Tbl := []
noncomputable def ref03_Number_C : CfgW := mkC Try.prog noG ref03_Number_T 29 0 false
def ref03_Number_lv : Nat → List Nat := fun i => bif Nat.beq i 0 then [1, 2, 3, 4] else []
noncomputable abbrev ref03_Number_b : Code := Try.f55.body.getD .skip
noncomputable abbrev ref03_Number_r : List ResultVar := Try.f55.results.toList
def ref03_Number_hs : List Nat := []

def ref03_Number_enc (r : Vector UInt64 4) : CallOut := ⟨.pv (.arr .u64 4 r), [], true, []⟩
def ref03_Number_s0 (i : Int) (l : Vector Bool 256) (t2 : Vector UInt64 4) (a : Vector UInt64 4) : St := ⟨[(1, .p 60000 []), (2, .p 60001 []), (3, .p 60002 []), (4, .pv (.sc .i i))], [(60000, .box (.pv (.arr .b 256 l))), (60001, .box (.pv (.arr .u64 4 t2))), (60002, .box (.pv (.arr .u64 4 a)))]⟩
theorem ref03_Number_g0 (i : Int) (l : Vector Bool 256) (t2 : Vector UInt64 4) (a : Vector UInt64 4) (Q : CallOut → Prop) : headRound ref03_Number_C ref03_Number_lv [true, true, false, true, false] ref03_Number_b (ref03_Number_s0 i l t2 a) (fnK ref03_Number_C ref03_Number_r ref03_Number_hs Q) =
    (condP (decide ((0 : Int) ≤ i)) (((64 : Int) ≠ (0 : Int)) ∧ (((64 : Int) ≠ (0 : Int)) ∧ ((((0 : Int) ≤ (w64 (Int.tdiv i (64 : Int)))) ∧ ((w64 (Int.tdiv i (64 : Int))) < (4 : Int))) ∧ ((((0 : Int) ≤ (w64 (Int.tdiv i (64 : Int)))) ∧ ((w64 (Int.tdiv i (64 : Int))) < (4 : Int))) ∧ ((((0 : Int) ≤ i) ∧ (i < (256 : Int))) ∧ (condP (List.getD (Vector.toList l) (Int.toNat i) false) (((64 : Int) ≠ (0 : Int)) ∧ (((64 : Int) ≠ (0 : Int)) ∧ ((((0 : Int) ≤ (w64 (Int.tdiv i (64 : Int)))) ∧ ((w64 (Int.tdiv i (64 : Int))) < (4 : Int))) ∧ ((((0 : Int) ≤ (w64 (Int.tdiv i (64 : Int)))) ∧ ((w64 (Int.tdiv i (64 : Int))) < (4 : Int))) ∧ (headP ref03_Number_C ref03_Number_lv [true, true, false, true, false] ref03_Number_b (ref03_Number_s0 (w64 (i - (1 : Int))) l t2 (Vector.setIfInBounds (Vector.setIfInBounds a (Int.toNat (w64 (Int.tdiv i (64 : Int)))) ((2 : UInt64) * (List.getD (Vector.toList a) (Int.toNat (w64 (Int.tdiv i (64 : Int)))) (0 : UInt64)))) (Int.toNat (w64 (Int.tdiv i (64 : Int)))) ((List.getD (Vector.toList (Vector.setIfInBounds a (Int.toNat (w64 (Int.tdiv i (64 : Int)))) ((2 : UInt64) * (List.getD (Vector.toList a) (Int.toNat (w64 (Int.tdiv i (64 : Int)))) (0 : UInt64))))) (Int.toNat (w64 (Int.tdiv i (64 : Int)))) (0 : UInt64)) + (1 : UInt64)))) (fnK ref03_Number_C ref03_Number_r ref03_Number_hs Q)))))) (headP ref03_Number_C ref03_Number_lv [true, true, false, true, false] ref03_Number_b (ref03_Number_s0 (w64 (i - (1 : Int))) l t2 (Vector.setIfInBounds a (Int.toNat (w64 (Int.tdiv i (64 : Int)))) ((2 : UInt64) * (List.getD (Vector.toList a) (Int.toNat (w64 (Int.tdiv i (64 : Int)))) (0 : UInt64))))) (fnK ref03_Number_C ref03_Number_r ref03_Number_hs Q)))))))) (Q (ref03_Number_enc a))) := by kernel_rfl
theorem ref03_Number_k0 {r : Vector UInt64 4} {Q : CallOut → Prop} (hQ : Q (ref03_Number_enc r)) : ∀ k : Nat, (∀ (i : Int) (l : Vector Bool 256) (t2 : Vector UInt64 4) (a : Vector UInt64 4), ref03_Number_h0 k i l t2 a = some r → headP ref03_Number_C ref03_Number_lv [true, true, false, true, false] ref03_Number_b (ref03_Number_s0 i l t2 a) (fnK ref03_Number_C ref03_Number_r ref03_Number_hs Q))
  | 0 => fun _ _ _ _ h => no_ok h
  | k + 1 => fun i l t2 a h => headP_step (Eq.mpr (ref03_Number_g0 i l t2 a Q) (have h := (ref03_Number_h0_q k i l t2 a).symm.trans h; cond_ok h (fun h => ⟨by decide +kernel, ⟨by decide +kernel, ite_ok h fun hc0 h => ⟨hc0, ite_ok h fun hc1 h => cond_ok h (fun h => ⟨by decide +kernel, ⟨by decide +kernel, ⟨hc0, ⟨hc0, (ref03_Number_k0 hQ k) _ _ _ _ h⟩⟩⟩⟩) (fun h => (ref03_Number_k0 hQ k) _ _ _ _ h)⟩⟩⟩) (fun h => ret_ok (Q := Q) (e := ref03_Number_enc) h hQ)))
theorem ref03_Number_e (l : Vector Bool 256) (Q : CallOut → Prop) : evalFnP ref03_Number_C ref03_Number_lv ref03_Number_r ref03_Number_hs ref03_Number_b [.pv (.arr .b 256 l)] [] Q =
    (headP ref03_Number_C ref03_Number_lv [true, true, false, true, false] ref03_Number_b (ref03_Number_s0 (255 : Int) l (Vector.replicate (4 : Nat) (0 : UInt64)) (Vector.replicate (4 : Nat) (0 : UInt64))) (fnK ref03_Number_C ref03_Number_r ref03_Number_hs Q)) := by kernel_rfl
theorem ref03_Number_w {k : Nat} (l : Vector Bool 256) {r} {Q : CallOut → Prop} (h : ref03_Number k l = some r) (hQ : Q (ref03_Number_enc r)) : evalFnP ref03_Number_C ref03_Number_lv ref03_Number_r ref03_Number_hs ref03_Number_b [.pv (.arr .b 256 l)] [] Q :=
  Eq.mpr (ref03_Number_e l Q) (have h := (ref03_Number_q k l).symm.trans h; (ref03_Number_k0 hQ _) _ _ _ _ h)
def ref03_Number_c : Ans
  | [.pv (.arr .b 256 l)], [] => some (none, ref03_Number_enc (uW (bV l)))
  | _, _ => none
theorem ref03_Number_tok : TblOK Try.prog noG ref03_Number_T := .nil
theorem ref03_Number_ok : FnOK Try.prog noG 55 (unW ref03_Number_c) := by
  refine FnOK.ofC (T := ref03_Number_T) (nt := 29) (np := 0) (nf := false) (hs := ref03_Number_hs) (fn := Try.f55) (body := ref03_Number_b) ref03_Number_tok (by kernel_rfl) (by kernel_rfl) (by kernel_rfl) (by kernel_rfl) (c := ref03_Number_c) (lv := ref03_Number_lv) ?_
  intro xs mem p out h hp
  unfold ref03_Number_c at h
  split at h
  · cases h
    obtain ⟨k, hk⟩ := ref03_Number_spec _
    exact ref03_Number_w _ hk rfl
  · cases h
end
end Go.Proofs.Ytepcjobghbanmaa.M

namespace Go.Proofs.Ytepcjobghbanmaa.M
open Go
noncomputable section
set_option maxRecDepth 100000
set_option maxHeartbeats 0
noncomputable def ref03_Less_T : Tbl := [(54, [], ref03_Bits_c)]
noncomputable def ref03_Less_C : CfgW := mkC Try.prog noG ref03_Less_T 26 0 false
def ref03_Less_lv : Nat → List Nat := fun i => bif Nat.beq i 0 then [5, 6, 7] else []
noncomputable abbrev ref03_Less_b : Code := Try.f35.body.getD .skip
noncomputable abbrev ref03_Less_r : List ResultVar := Try.f35.results.toList
def ref03_Less_hs : List Nat := []

def ref03_Less_enc (r : Bool) : CallOut := ⟨.pv (.sc .b r), [], true, []⟩
def ref03_Less_s0 (i : Int) (x_ : Vector Bool 256) (y : Vector Bool 256) : St := ⟨[(5, .p 60000 []), (6, .p 60001 []), (7, .pv (.sc .i i))], [(60000, .box (.pv (.arr .b 256 x_))), (60001, .box (.pv (.arr .b 256 y)))]⟩
theorem ref03_Less_g0 (i : Int) (x_ : Vector Bool 256) (y : Vector Bool 256) (Q : CallOut → Prop) : headRound ref03_Less_C ref03_Less_lv [true, true, false, true, false] ref03_Less_b (ref03_Less_s0 i x_ y) (fnK ref03_Less_C ref03_Less_r ref03_Less_hs Q) =
    (condP (decide ((0 : Int) ≤ i)) ((((0 : Int) ≤ i) ∧ (i < (256 : Int))) ∧ ((((0 : Int) ≤ i) ∧ (i < (256 : Int))) ∧ (condP (!(decide ((List.getD (Vector.toList x_) (Int.toNat i) false) = (List.getD (Vector.toList y) (Int.toNat i) false)))) ((((0 : Int) ≤ i) ∧ (i < (256 : Int))) ∧ (Q (ref03_Less_enc (List.getD (Vector.toList y) (Int.toNat i) false)))) (headP ref03_Less_C ref03_Less_lv [true, true, false, true, false] ref03_Less_b (ref03_Less_s0 (w64 (i - (1 : Int))) x_ y) (fnK ref03_Less_C ref03_Less_r ref03_Less_hs Q))))) (Q (ref03_Less_enc false))) := by kernel_rfl
theorem ref03_Less_k0 {r : Bool} {Q : CallOut → Prop} (hQ : Q (ref03_Less_enc r)) : ∀ k : Nat, (∀ (i : Int) (x_ : Vector Bool 256) (y : Vector Bool 256), ref03_Less_h0 k i x_ y = some r → headP ref03_Less_C ref03_Less_lv [true, true, false, true, false] ref03_Less_b (ref03_Less_s0 i x_ y) (fnK ref03_Less_C ref03_Less_r ref03_Less_hs Q))
  | 0 => fun _ _ _ h => no_ok h
  | k + 1 => fun i x_ y h => headP_step (Eq.mpr (ref03_Less_g0 i x_ y Q) (have h := (ref03_Less_h0_q k i x_ y).symm.trans h; cond_ok h (fun h => ite_ok h fun hc0 h => ⟨hc0, cond_ok h (fun h => ⟨hc0, ret_ok (Q := Q) (e := ref03_Less_enc) h hQ⟩) (fun h => (ref03_Less_k0 hQ k) _ _ _ h)⟩) (fun h => ret_ok (Q := Q) (e := ref03_Less_enc) h hQ)))
theorem ref03_Less_e (a : Vector UInt64 4) (b : Vector UInt64 4) (Q : CallOut → Prop) : evalFnP ref03_Less_C ref03_Less_lv ref03_Less_r ref03_Less_hs ref03_Less_b [.pv (.arr .u64 4 a), .pv (.arr .u64 4 b)] [] Q =
    (headP ref03_Less_C ref03_Less_lv [true, true, false, true, false] ref03_Less_b (ref03_Less_s0 (255 : Int) (bitsV (uV a)) (bitsV (uV b))) (fnK ref03_Less_C ref03_Less_r ref03_Less_hs Q)) := by kernel_rfl
theorem ref03_Less_w {k : Nat} (a : Vector UInt64 4) (b : Vector UInt64 4) {r} {Q : CallOut → Prop} (h : ref03_Less k a b = some r) (hQ : Q (ref03_Less_enc r)) : evalFnP ref03_Less_C ref03_Less_lv ref03_Less_r ref03_Less_hs ref03_Less_b [.pv (.arr .u64 4 a), .pv (.arr .u64 4 b)] [] Q :=
  Eq.mpr (ref03_Less_e a b Q) (have h := (ref03_Less_q k a b).symm.trans h; (ref03_Less_k0 hQ _) _ _ _ h)
def ref03_Less_c : Ans
  | [.pv (.arr .u64 4 a), .pv (.arr .u64 4 b)], [] => some (none, ref03_Less_enc (subB a b))
  | _, _ => none
theorem ref03_Less_tok : TblOK Try.prog noG ref03_Less_T := .cons ⟨by kernel_rfl, ref03_Bits_ok⟩ (.nil)
theorem ref03_Less_ok : FnOK Try.prog noG 35 (unW ref03_Less_c) := by
  refine FnOK.ofC (T := ref03_Less_T) (nt := 26) (np := 0) (nf := false) (hs := ref03_Less_hs) (fn := Try.f35) (body := ref03_Less_b) ref03_Less_tok (by kernel_rfl) (by kernel_rfl) (by kernel_rfl) (by kernel_rfl) (c := ref03_Less_c) (lv := ref03_Less_lv) ?_
  intro xs mem p out h hp
  unfold ref03_Less_c at h
  split at h
  · cases h
    obtain ⟨k, hk⟩ := ref03_Less_spec _ _
    exact ref03_Less_w _ _ hk rfl
  · cases h
end
end Go.Proofs.Ytepcjobghbanmaa.M

namespace Go.Proofs.Ytepcjobghbanmaa.M
open Go
noncomputable section
set_option maxRecDepth 100000
set_option maxHeartbeats 0
noncomputable def ref03_not_T : Tbl := []
noncomputable def ref03_not_C : CfgW := mkC Try.prog noG ref03_not_T 15 0 false
def ref03_not_lv : Nat → List Nat := fun i => bif Nat.beq i 0 then [1, 2, 3] else []
noncomputable abbrev ref03_not_b : Code := Try.f60.body.getD .skip
noncomputable abbrev ref03_not_r : List ResultVar := Try.f60.results.toList
def ref03_not_hs : List Nat := []

def ref03_not_enc (r : Vector Bool 256) : CallOut := ⟨.pv (.arr .b 256 r), [], true, []⟩
def ref03_not_s0 (i : Int) (x_ : Vector Bool 256) (t2 : Vector Bool 256) : St := ⟨[(1, .p 60000 []), (2, .p 60001 []), (3, .pv (.sc .i i))], [(60000, .box (.pv (.arr .b 256 x_))), (60001, .box (.pv (.arr .b 256 t2)))]⟩
theorem ref03_not_g0 (i : Int) (x_ : Vector Bool 256) (t2 : Vector Bool 256) (Q : CallOut → Prop) : headRound ref03_not_C ref03_not_lv [true, false, true, false] ref03_not_b (ref03_not_s0 i x_ t2) (fnK ref03_not_C ref03_not_r ref03_not_hs Q) =
    (condP (decide (i < (256 : Int))) ((((0 : Int) ≤ i) ∧ (i < (256 : Int))) ∧ ((((0 : Int) ≤ i) ∧ (i < (256 : Int))) ∧ (headP ref03_not_C ref03_not_lv [true, false, true, false] ref03_not_b (ref03_not_s0 (w64 (i + (1 : Int))) (Vector.setIfInBounds x_ (Int.toNat i) (!(List.getD (Vector.toList x_) (Int.toNat i) false))) t2) (fnK ref03_not_C ref03_not_r ref03_not_hs Q)))) (Q (ref03_not_enc x_))) := by kernel_rfl
theorem ref03_not_k0 {r : Vector Bool 256} {Q : CallOut → Prop} (hQ : Q (ref03_not_enc r)) : ∀ k : Nat, (∀ (i : Int) (x_ : Vector Bool 256) (t2 : Vector Bool 256), ref03_not_h0 k i x_ t2 = some r → headP ref03_not_C ref03_not_lv [true, false, true, false] ref03_not_b (ref03_not_s0 i x_ t2) (fnK ref03_not_C ref03_not_r ref03_not_hs Q))
  | 0 => fun _ _ _ h => no_ok h
  | k + 1 => fun i x_ t2 h => headP_step (Eq.mpr (ref03_not_g0 i x_ t2 Q) (have h := (ref03_not_h0_q k i x_ t2).symm.trans h; cond_ok h (fun h => ite_ok h fun hc0 h => ⟨hc0, (ref03_not_k0 hQ k) _ _ _ h⟩) (fun h => ret_ok (Q := Q) (e := ref03_not_enc) h hQ)))
theorem ref03_not_e (x_0 : Vector Bool 256) (Q : CallOut → Prop) : evalFnP ref03_not_C ref03_not_lv ref03_not_r ref03_not_hs ref03_not_b [.pv (.arr .b 256 x_0)] [] Q =
    (headP ref03_not_C ref03_not_lv [true, false, true, false] ref03_not_b (ref03_not_s0 (0 : Int) x_0 (Vector.replicate (256 : Nat) false)) (fnK ref03_not_C ref03_not_r ref03_not_hs Q)) := by kernel_rfl
theorem ref03_not_w {k : Nat} (x_0 : Vector Bool 256) {r} {Q : CallOut → Prop} (h : ref03_not k x_0 = some r) (hQ : Q (ref03_not_enc r)) : evalFnP ref03_not_C ref03_not_lv ref03_not_r ref03_not_hs ref03_not_b [.pv (.arr .b 256 x_0)] [] Q :=
  Eq.mpr (ref03_not_e x_0 Q) (have h := (ref03_not_q k x_0).symm.trans h; (ref03_not_k0 hQ _) _ _ _ h)
def ref03_not_c : Ans
  | [.pv (.arr .b 256 x_0)], [] => some (none, ref03_not_enc (bNot x_0))
  | _, _ => none
theorem ref03_not_tok : TblOK Try.prog noG ref03_not_T := .nil
theorem ref03_not_ok : FnOK Try.prog noG 60 (unW ref03_not_c) := by
  refine FnOK.ofC (T := ref03_not_T) (nt := 15) (np := 0) (nf := false) (hs := ref03_not_hs) (fn := Try.f60) (body := ref03_not_b) ref03_not_tok (by kernel_rfl) (by kernel_rfl) (by kernel_rfl) (by kernel_rfl) (c := ref03_not_c) (lv := ref03_not_lv) ?_
  intro xs mem p out h hp
  unfold ref03_not_c at h
  split at h
  · cases h
    obtain ⟨k, hk⟩ := ref03_not_spec _
    exact ref03_not_w _ hk rfl
  · cases h
end
end Go.Proofs.Ytepcjobghbanmaa.M

namespace Go.Proofs.Ytepcjobghbanmaa.M
open Go
noncomputable section
set_option maxRecDepth 100000
set_option maxHeartbeats 0
noncomputable def ref03_sum_T : Tbl := []
noncomputable def ref03_sum_C : CfgW := mkC Try.prog noG ref03_sum_T 37 0 false
def ref03_sum_lv : Nat → List Nat := fun i => bif Nat.beq i 0 then [2, 3, 4, 6, 8, 9] else []
noncomputable abbrev ref03_sum_b : Code := Try.f58.body.getD .skip
noncomputable abbrev ref03_sum_r : List ResultVar := Try.f58.results.toList
def ref03_sum_hs : List Nat := []

def ref03_sum_enc (r : Vector Bool 256 × Bool) : CallOut := ⟨.tup [.pv (.arr .b 256 r.1), .pv (.sc .b r.2)], [], true, []⟩
def ref03_sum_s0 (carry : Bool) (i : Int) (x_ : Vector Bool 256) (y : Vector Bool 256) (t6 : Vector Bool 256) (out : Vector Bool 256) : St := ⟨[(2, .pv (.sc .b carry)), (3, .p 60000 []), (4, .p 60001 []), (6, .p 60002 []), (8, .p 60003 []), (9, .pv (.sc .i i))], [(60000, .box (.pv (.arr .b 256 x_))), (60001, .box (.pv (.arr .b 256 y))), (60002, .box (.pv (.arr .b 256 t6))), (60003, .box (.pv (.arr .b 256 out)))]⟩
theorem ref03_sum_g0 (carry : Bool) (i : Int) (x_ : Vector Bool 256) (y : Vector Bool 256) (t6 : Vector Bool 256) (out : Vector Bool 256) (Q : CallOut → Prop) : headRound ref03_sum_C ref03_sum_lv [true, true, false, true, false] ref03_sum_b (ref03_sum_s0 carry i x_ y t6 out) (fnK ref03_sum_C ref03_sum_r ref03_sum_hs Q) =
    (condP (decide (i < (256 : Int))) ((((0 : Int) ≤ i) ∧ (i < (256 : Int))) ∧ (condP (List.getD (Vector.toList x_) (Int.toNat i) false) ((((0 : Int) ≤ i) ∧ (i < (256 : Int))) ∧ (condP (List.getD (Vector.toList y) (Int.toNat i) false) (condP carry (((2 : Int) ≠ (0 : Int)) ∧ ((((0 : Int) ≤ i) ∧ (i < (256 : Int))) ∧ (headP ref03_sum_C ref03_sum_lv [true, true, false, true, false] ref03_sum_b (ref03_sum_s0 (decide ((2 : Int) ≤ (3 : Int))) (w64 (i + (1 : Int))) x_ y t6 (Vector.setIfInBounds out (Int.toNat i) (decide ((1 : Int) = (1 : Int))))) (fnK ref03_sum_C ref03_sum_r ref03_sum_hs Q)))) (((2 : Int) ≠ (0 : Int)) ∧ ((((0 : Int) ≤ i) ∧ (i < (256 : Int))) ∧ (headP ref03_sum_C ref03_sum_lv [true, true, false, true, false] ref03_sum_b (ref03_sum_s0 (decide ((2 : Int) ≤ (2 : Int))) (w64 (i + (1 : Int))) x_ y t6 (Vector.setIfInBounds out (Int.toNat i) (decide ((0 : Int) = (1 : Int))))) (fnK ref03_sum_C ref03_sum_r ref03_sum_hs Q))))) (condP carry (((2 : Int) ≠ (0 : Int)) ∧ ((((0 : Int) ≤ i) ∧ (i < (256 : Int))) ∧ (headP ref03_sum_C ref03_sum_lv [true, true, false, true, false] ref03_sum_b (ref03_sum_s0 (decide ((2 : Int) ≤ (2 : Int))) (w64 (i + (1 : Int))) x_ y t6 (Vector.setIfInBounds out (Int.toNat i) (decide ((0 : Int) = (1 : Int))))) (fnK ref03_sum_C ref03_sum_r ref03_sum_hs Q)))) (((2 : Int) ≠ (0 : Int)) ∧ ((((0 : Int) ≤ i) ∧ (i < (256 : Int))) ∧ (headP ref03_sum_C ref03_sum_lv [true, true, false, true, false] ref03_sum_b (ref03_sum_s0 (decide ((2 : Int) ≤ (1 : Int))) (w64 (i + (1 : Int))) x_ y t6 (Vector.setIfInBounds out (Int.toNat i) (decide ((1 : Int) = (1 : Int))))) (fnK ref03_sum_C ref03_sum_r ref03_sum_hs Q))))))) ((((0 : Int) ≤ i) ∧ (i < (256 : Int))) ∧ (condP (List.getD (Vector.toList y) (Int.toNat i) false) (condP carry (((2 : Int) ≠ (0 : Int)) ∧ ((((0 : Int) ≤ i) ∧ (i < (256 : Int))) ∧ (headP ref03_sum_C ref03_sum_lv [true, true, false, true, false] ref03_sum_b (ref03_sum_s0 (decide ((2 : Int) ≤ (2 : Int))) (w64 (i + (1 : Int))) x_ y t6 (Vector.setIfInBounds out (Int.toNat i) (decide ((0 : Int) = (1 : Int))))) (fnK ref03_sum_C ref03_sum_r ref03_sum_hs Q)))) (((2 : Int) ≠ (0 : Int)) ∧ ((((0 : Int) ≤ i) ∧ (i < (256 : Int))) ∧ (headP ref03_sum_C ref03_sum_lv [true, true, false, true, false] ref03_sum_b (ref03_sum_s0 (decide ((2 : Int) ≤ (1 : Int))) (w64 (i + (1 : Int))) x_ y t6 (Vector.setIfInBounds out (Int.toNat i) (decide ((1 : Int) = (1 : Int))))) (fnK ref03_sum_C ref03_sum_r ref03_sum_hs Q))))) (condP carry (((2 : Int) ≠ (0 : Int)) ∧ ((((0 : Int) ≤ i) ∧ (i < (256 : Int))) ∧ (headP ref03_sum_C ref03_sum_lv [true, true, false, true, false] ref03_sum_b (ref03_sum_s0 (decide ((2 : Int) ≤ (1 : Int))) (w64 (i + (1 : Int))) x_ y t6 (Vector.setIfInBounds out (Int.toNat i) (decide ((1 : Int) = (1 : Int))))) (fnK ref03_sum_C ref03_sum_r ref03_sum_hs Q)))) (((2 : Int) ≠ (0 : Int)) ∧ ((((0 : Int) ≤ i) ∧ (i < (256 : Int))) ∧ (headP ref03_sum_C ref03_sum_lv [true, true, false, true, false] ref03_sum_b (ref03_sum_s0 (decide ((2 : Int) ≤ (0 : Int))) (w64 (i + (1 : Int))) x_ y t6 (Vector.setIfInBounds out (Int.toNat i) (decide ((0 : Int) = (1 : Int))))) (fnK ref03_sum_C ref03_sum_r ref03_sum_hs Q))))))))) (Q (ref03_sum_enc (out, carry)))) := by kernel_rfl
theorem ref03_sum_k0 {r : Vector Bool 256 × Bool} {Q : CallOut → Prop} (hQ : Q (ref03_sum_enc r)) : ∀ k : Nat, (∀ (carry : Bool) (i : Int) (x_ : Vector Bool 256) (y : Vector Bool 256) (t6 : Vector Bool 256) (out : Vector Bool 256), ref03_sum_h0 k carry i x_ y t6 out = some r → headP ref03_sum_C ref03_sum_lv [true, true, false, true, false] ref03_sum_b (ref03_sum_s0 carry i x_ y t6 out) (fnK ref03_sum_C ref03_sum_r ref03_sum_hs Q))
  | 0 => fun _ _ _ _ _ _ h => no_ok h
  | k + 1 => fun carry i x_ y t6 out h => headP_step (Eq.mpr (ref03_sum_g0 carry i x_ y t6 out Q) (have h := (ref03_sum_h0_q k carry i x_ y t6 out).symm.trans h; cond_ok h (fun h => ite_ok h fun hc0 h => cond_ok h (fun h => ⟨hc0, cond_ok h (fun h => cond_ok h (fun h => ⟨by decide +kernel, ⟨hc0, (ref03_sum_k0 hQ k) _ _ _ _ _ _ h⟩⟩) (fun h => ⟨by decide +kernel, ⟨hc0, (ref03_sum_k0 hQ k) _ _ _ _ _ _ h⟩⟩)) (fun h => cond_ok h (fun h => ⟨by decide +kernel, ⟨hc0, (ref03_sum_k0 hQ k) _ _ _ _ _ _ h⟩⟩) (fun h => ⟨by decide +kernel, ⟨hc0, (ref03_sum_k0 hQ k) _ _ _ _ _ _ h⟩⟩))⟩) (fun h => ⟨hc0, cond_ok h (fun h => cond_ok h (fun h => ⟨by decide +kernel, ⟨hc0, (ref03_sum_k0 hQ k) _ _ _ _ _ _ h⟩⟩) (fun h => ⟨by decide +kernel, ⟨hc0, (ref03_sum_k0 hQ k) _ _ _ _ _ _ h⟩⟩)) (fun h => cond_ok h (fun h => ⟨by decide +kernel, ⟨hc0, (ref03_sum_k0 hQ k) _ _ _ _ _ _ h⟩⟩) (fun h => ⟨by decide +kernel, ⟨hc0, (ref03_sum_k0 hQ k) _ _ _ _ _ _ h⟩⟩))⟩)) (fun h => ret_ok (Q := Q) (e := ref03_sum_enc) h hQ)))
theorem ref03_sum_e (x_0 : Vector Bool 256) (y : Vector Bool 256) (carry : Bool) (Q : CallOut → Prop) : evalFnP ref03_sum_C ref03_sum_lv ref03_sum_r ref03_sum_hs ref03_sum_b [.pv (.arr .b 256 x_0), .pv (.arr .b 256 y), .pv (.sc .b carry)] [] Q =
    (headP ref03_sum_C ref03_sum_lv [true, true, false, true, false] ref03_sum_b (ref03_sum_s0 carry (0 : Int) x_0 y (Vector.replicate (256 : Nat) false) (Vector.replicate (256 : Nat) false)) (fnK ref03_sum_C ref03_sum_r ref03_sum_hs Q)) := by kernel_rfl
theorem ref03_sum_w {k : Nat} (x_0 : Vector Bool 256) (y : Vector Bool 256) (carry : Bool) {r} {Q : CallOut → Prop} (h : ref03_sum k x_0 y carry = some r) (hQ : Q (ref03_sum_enc r)) : evalFnP ref03_sum_C ref03_sum_lv ref03_sum_r ref03_sum_hs ref03_sum_b [.pv (.arr .b 256 x_0), .pv (.arr .b 256 y), .pv (.sc .b carry)] [] Q :=
  Eq.mpr (ref03_sum_e x_0 y carry Q) (have h := (ref03_sum_q k x_0 y carry).symm.trans h; (ref03_sum_k0 hQ _) _ _ _ _ _ _ h)
def ref03_sum_c : Ans
  | [.pv (.arr .b 256 x_0), .pv (.arr .b 256 y), .pv (.sc .b carry)], [] => some (none, ref03_sum_enc (sumS x_0 y carry))
  | _, _ => none
theorem ref03_sum_tok : TblOK Try.prog noG ref03_sum_T := .nil
theorem ref03_sum_ok : FnOK Try.prog noG 58 (unW ref03_sum_c) := by
  refine FnOK.ofC (T := ref03_sum_T) (nt := 37) (np := 0) (nf := false) (hs := ref03_sum_hs) (fn := Try.f58) (body := ref03_sum_b) ref03_sum_tok (by kernel_rfl) (by kernel_rfl) (by kernel_rfl) (by kernel_rfl) (c := ref03_sum_c) (lv := ref03_sum_lv) ?_
  intro xs mem p out h hp
  unfold ref03_sum_c at h
  split at h
  · cases h
    obtain ⟨k, hk⟩ := ref03_sum_spec _ _ _
    exact ref03_sum_w _ _ _ hk rfl
  · cases h
end
end Go.Proofs.Ytepcjobghbanmaa.M

namespace Go.Proofs.Ytepcjobghbanmaa.M
open Go
noncomputable section
set_option maxRecDepth 100000
set_option maxHeartbeats 0
noncomputable def ref03_Sub_T : Tbl := [(54, [], ref03_Bits_c), (60, [], ref03_not_c), (58, [], ref03_sum_c), (55, [], ref03_Number_c)]
noncomputable def ref03_Sub_C : CfgW := mkC Try.prog noG ref03_Sub_T 21 0 false
def ref03_Sub_lv : Nat → List Nat := fun i => []
noncomputable abbrev ref03_Sub_b : Code := Try.f23.body.getD .skip
noncomputable abbrev ref03_Sub_r : List ResultVar := Try.f23.results.toList
def ref03_Sub_hs : List Nat := []

def ref03_Sub_enc (r : Vector UInt64 4 × Bool) : CallOut := ⟨.tup [.pv (.arr .u64 4 r.1), .pv (.sc .b r.2)], [], true, []⟩
theorem ref03_Sub_e (a : Vector UInt64 4) (b : Vector UInt64 4) (Q : CallOut → Prop) : evalFnP ref03_Sub_C ref03_Sub_lv ref03_Sub_r ref03_Sub_hs ref03_Sub_b [.pv (.arr .u64 4 a), .pv (.arr .u64 4 b)] [] Q =
    (Q (ref03_Sub_enc ((uW (bV (bitsV (((bV (bitsV (uV a))) + (bV (bNot (bitsV (uV b))))) + (Bool.toNat true))))), (!(decide ((115792089237316195423570985008687907853269984665640564039457584007913129639936 : Nat) ≤ (((bV (bitsV (uV a))) + (bV (bNot (bitsV (uV b))))) + (Bool.toNat true)))))))) := by kernel_rfl
theorem ref03_Sub_w (a : Vector UInt64 4) (b : Vector UInt64 4) {Q : CallOut → Prop} (h : Q (ref03_Sub_enc (ref03_Sub a b))) : evalFnP ref03_Sub_C ref03_Sub_lv ref03_Sub_r ref03_Sub_hs ref03_Sub_b [.pv (.arr .u64 4 a), .pv (.arr .u64 4 b)] [] Q :=
  Eq.mpr (ref03_Sub_e a b Q) (have h := Eq.mp (congrArg (fun r => Q (ref03_Sub_enc r)) (ref03_Sub_q a b)) h; h)
def ref03_Sub_c : Ans
  | [.pv (.arr .u64 4 a), .pv (.arr .u64 4 b)], [] => some (none, ref03_Sub_enc ((subV a b, subB a b)))
  | _, _ => none
theorem ref03_Sub_tok : TblOK Try.prog noG ref03_Sub_T := .cons ⟨by kernel_rfl, ref03_Bits_ok⟩ (.cons ⟨by kernel_rfl, ref03_not_ok⟩ (.cons ⟨by kernel_rfl, ref03_sum_ok⟩ (.cons ⟨by kernel_rfl, ref03_Number_ok⟩ (.nil))))
theorem ref03_Sub_ok : FnOK Try.prog noG 23 (unW ref03_Sub_c) := by
  refine FnOK.ofC (T := ref03_Sub_T) (nt := 21) (np := 0) (nf := false) (hs := ref03_Sub_hs) (fn := Try.f23) (body := ref03_Sub_b) ref03_Sub_tok (by kernel_rfl) (by kernel_rfl) (by kernel_rfl) (by kernel_rfl) (c := ref03_Sub_c) (lv := ref03_Sub_lv) ?_
  intro xs mem p out h hp
  unfold ref03_Sub_c at h
  split at h
  · cases h
    exact ref03_Sub_w _ _ (congrArg ref03_Sub_enc (ref03_Sub_spec _ _))
  · cases h
end
end Go.Proofs.Ytepcjobghbanmaa.M

namespace Go.Proofs.Ytepcjobghbanmaa.M
open Go
noncomputable section
set_option maxRecDepth 100000
set_option maxHeartbeats 0
noncomputable def ref03_Over_T : Tbl := [(54, [], ref03_Bits_c), (55, [], ref03_Number_c), (35, [], ref03_Less_c), (23, [], ref03_Sub_c)]
noncomputable def ref03_Over_C : CfgW := mkC Try.prog noG ref03_Over_T 66 0 false
def ref03_Over_lv : Nat → List Nat := fun i => bif Nat.beq i 2 then [3, 4, 5, 8, 9, 10, 11, 12, 13] else bif Nat.beq i 0 then [3, 4, 5, 8, 9, 10, 11] else []
noncomputable abbrev ref03_Over_b : Code := Try.f16.body.getD .skip
noncomputable abbrev ref03_Over_r : List ResultVar := Try.f16.results.toList
def ref03_Over_hs : List Nat := []

def ref03_Over_enc (r : Vector UInt64 4 × Vector UInt64 4 × Int) : CallOut := ⟨.tup [.pv (.arr .u64 4 r.1), .pv (.arr .u64 4 r.2.1), .pv (.sc .i r.2.2)], [], true, []⟩
def ref03_Over_s0 (i : Int) (b : Vector UInt64 4) (t4 : Vector UInt64 4) (t5 : Vector UInt64 4) (x_ : Vector Bool 256) (q : Vector Bool 256) (r_ : Vector Bool 256) : St := ⟨[(3, .p 60000 []), (4, .p 60001 []), (5, .p 60002 []), (8, .p 60003 []), (9, .p 60004 []), (10, .p 60005 []), (11, .pv (.sc .i i))], [(60000, .box (.pv (.arr .u64 4 b))), (60001, .box (.pv (.arr .u64 4 t4))), (60002, .box (.pv (.arr .u64 4 t5))), (60003, .box (.pv (.arr .b 256 x_))), (60004, .box (.pv (.arr .b 256 q))), (60005, .box (.pv (.arr .b 256 r_)))]⟩
def ref03_Over_s2 (i : Int) (top : Bool) (k_ : Int) (b : Vector UInt64 4) (t4 : Vector UInt64 4) (t5 : Vector UInt64 4) (x_ : Vector Bool 256) (q : Vector Bool 256) (r_ : Vector Bool 256) : St := ⟨[(3, .p 60000 []), (4, .p 60001 []), (5, .p 60002 []), (8, .p 60003 []), (9, .p 60004 []), (10, .p 60005 []), (11, .pv (.sc .i i)), (12, .pv (.sc .b top)), (13, .pv (.sc .i k_))], [(60000, .box (.pv (.arr .u64 4 b))), (60001, .box (.pv (.arr .u64 4 t4))), (60002, .box (.pv (.arr .u64 4 t5))), (60003, .box (.pv (.arr .b 256 x_))), (60004, .box (.pv (.arr .b 256 q))), (60005, .box (.pv (.arr .b 256 r_)))]⟩
theorem ref03_Over_g0 (i : Int) (b : Vector UInt64 4) (t4 : Vector UInt64 4) (t5 : Vector UInt64 4) (x_ : Vector Bool 256) (q : Vector Bool 256) (r_ : Vector Bool 256) (Q : CallOut → Prop) : headRound ref03_Over_C ref03_Over_lv [true, true, true, true, true, false, true, false] ref03_Over_b (ref03_Over_s0 i b t4 t5 x_ q r_) (fnK ref03_Over_C ref03_Over_r ref03_Over_hs Q) =
    (condP (decide ((0 : Int) ≤ i)) ((((0 : Int) ≤ (255 : Int)) ∧ ((255 : Int) < (256 : Int))) ∧ (headP ref03_Over_C ref03_Over_lv [true, true, true, true, true, false, true, false, false, true, false, false, true, false, true, false] ref03_Over_b (ref03_Over_s2 i (List.getD (Vector.toList r_) (255 : Nat) false) (255 : Int) b t4 t5 x_ q r_) (fnK ref03_Over_C ref03_Over_r ref03_Over_hs Q))) (Q (ref03_Over_enc ((uW (bV q)), (uW (bV r_)), (0 : Int))))) := by kernel_rfl
theorem ref03_Over_g2 (i : Int) (top : Bool) (k_ : Int) (b : Vector UInt64 4) (t4 : Vector UInt64 4) (t5 : Vector UInt64 4) (x_ : Vector Bool 256) (q : Vector Bool 256) (r_ : Vector Bool 256) (Q : CallOut → Prop) : headRound ref03_Over_C ref03_Over_lv [true, true, true, true, true, false, true, false, false, true, false, false, true, false, true, false] ref03_Over_b (ref03_Over_s2 i top k_ b t4 t5 x_ q r_) (fnK ref03_Over_C ref03_Over_r ref03_Over_hs Q) =
    (condP (decide ((0 : Int) < k_)) ((((0 : Int) ≤ (w64 (k_ - (1 : Int)))) ∧ ((w64 (k_ - (1 : Int))) < (256 : Int))) ∧ ((((0 : Int) ≤ k_) ∧ (k_ < (256 : Int))) ∧ (headP ref03_Over_C ref03_Over_lv [true, true, true, true, true, false, true, false, false, true, false, false, true, false, true, false] ref03_Over_b (ref03_Over_s2 i top (w64 (k_ - (1 : Int))) b t4 t5 x_ q (Vector.setIfInBounds r_ (Int.toNat k_) (List.getD (Vector.toList r_) (Int.toNat (w64 (k_ - (1 : Int)))) false))) (fnK ref03_Over_C ref03_Over_r ref03_Over_hs Q)))) ((((0 : Int) ≤ i) ∧ (i < (256 : Int))) ∧ ((((0 : Int) ≤ (0 : Int)) ∧ ((0 : Int) < (256 : Int))) ∧ (condP (eqb top false) (condP (bif false then true else (!(subB (uW (bV (Vector.setIfInBounds r_ (0 : Nat) (List.getD (Vector.toList x_) (Int.toNat i) false)))) b))) ((((0 : Int) ≤ i) ∧ (i < (256 : Int))) ∧ (headP ref03_Over_C ref03_Over_lv [true, true, true, true, true, false, true, false] ref03_Over_b (ref03_Over_s0 (w64 (i - (1 : Int))) b t4 t5 x_ (Vector.setIfInBounds q (Int.toNat i) true) (bitsV (uV (subV (uW (bV (Vector.setIfInBounds r_ (0 : Nat) (List.getD (Vector.toList x_) (Int.toNat i) false)))) b)))) (fnK ref03_Over_C ref03_Over_r ref03_Over_hs Q))) (headP ref03_Over_C ref03_Over_lv [true, true, true, true, true, false, true, false] ref03_Over_b (ref03_Over_s0 (w64 (i - (1 : Int))) b t4 t5 x_ q (Vector.setIfInBounds r_ (0 : Nat) (List.getD (Vector.toList x_) (Int.toNat i) false))) (fnK ref03_Over_C ref03_Over_r ref03_Over_hs Q))) ((((0 : Int) ≤ i) ∧ (i < (256 : Int))) ∧ (headP ref03_Over_C ref03_Over_lv [true, true, true, true, true, false, true, false] ref03_Over_b (ref03_Over_s0 (w64 (i - (1 : Int))) b t4 t5 x_ (Vector.setIfInBounds q (Int.toNat i) true) (bitsV (uV (subV (uW (bV (Vector.setIfInBounds r_ (0 : Nat) (List.getD (Vector.toList x_) (Int.toNat i) false)))) b)))) (fnK ref03_Over_C ref03_Over_r ref03_Over_hs Q))))))) := by kernel_rfl
theorem ref03_Over_k0 {r : Vector UInt64 4 × Vector UInt64 4 × Int} {Q : CallOut → Prop} (hQ : Q (ref03_Over_enc r)) : ∀ k : Nat, (∀ (i : Int) (b : Vector UInt64 4) (t4 : Vector UInt64 4) (t5 : Vector UInt64 4) (x_ : Vector Bool 256) (q : Vector Bool 256) (r_ : Vector Bool 256), ref03_Over_h0 k i b t4 t5 x_ q r_ = some r → headP ref03_Over_C ref03_Over_lv [true, true, true, true, true, false, true, false] ref03_Over_b (ref03_Over_s0 i b t4 t5 x_ q r_) (fnK ref03_Over_C ref03_Over_r ref03_Over_hs Q)) ∧ (∀ (i : Int) (top : Bool) (k_ : Int) (b : Vector UInt64 4) (t4 : Vector UInt64 4) (t5 : Vector UInt64 4) (x_ : Vector Bool 256) (q : Vector Bool 256) (r_ : Vector Bool 256), ref03_Over_h2 k i top k_ b t4 t5 x_ q r_ = some r → headP ref03_Over_C ref03_Over_lv [true, true, true, true, true, false, true, false, false, true, false, false, true, false, true, false] ref03_Over_b (ref03_Over_s2 i top k_ b t4 t5 x_ q r_) (fnK ref03_Over_C ref03_Over_r ref03_Over_hs Q))
  | 0 => ⟨fun _ _ _ _ _ _ _ h => no_ok h, fun _ _ _ _ _ _ _ _ _ h => no_ok h⟩
  | k + 1 => ⟨fun i b t4 t5 x_ q r_ h => headP_step (Eq.mpr (ref03_Over_g0 i b t4 t5 x_ q r_ Q) (have h := (ref03_Over_h0_q k i b t4 t5 x_ q r_).symm.trans h; cond_ok h (fun h => ⟨by decide +kernel, (ref03_Over_k0 hQ k).2 _ _ _ _ _ _ _ _ _ h⟩) (fun h => ret_ok (Q := Q) (e := ref03_Over_enc) h hQ))),
    fun i top k_ b t4 t5 x_ q r_ h => headP_step (Eq.mpr (ref03_Over_g2 i top k_ b t4 t5 x_ q r_ Q) (have h := (ref03_Over_h2_q k i top k_ b t4 t5 x_ q r_).symm.trans h; cond_ok h (fun h => ite_ok h fun hc0 h => ite_ok h fun hc1 h => (ref03_Over_k0 hQ k).2 _ _ _ _ _ _ _ _ _ h) (fun h => ite_ok h fun hc0 h => ⟨by decide +kernel, cond_ok h (fun h => cond_ok h (fun h => ⟨hc0, (ref03_Over_k0 hQ k).1 _ _ _ _ _ _ _ h⟩) (fun h => (ref03_Over_k0 hQ k).1 _ _ _ _ _ _ _ h)) (fun h => ⟨hc0, (ref03_Over_k0 hQ k).1 _ _ _ _ _ _ _ h⟩)⟩)))⟩
theorem ref03_Over_e (a : Vector UInt64 4) (b : Vector UInt64 4) (Q : CallOut → Prop) : evalFnP ref03_Over_C ref03_Over_lv ref03_Over_r ref03_Over_hs ref03_Over_b [.pv (.arr .u64 4 a), .pv (.arr .u64 4 b)] [] Q =
    (condP (decide ((Vector.toList b) = (Vector.toList (Vector.replicate (4 : Nat) (0 : UInt64))))) (Q (ref03_Over_enc ((Vector.replicate (4 : Nat) (0 : UInt64)), (Vector.replicate (4 : Nat) (0 : UInt64)), (2 : Int)))) (headP ref03_Over_C ref03_Over_lv [true, true, true, true, true, false, true, false] ref03_Over_b (ref03_Over_s0 (255 : Int) b (Vector.replicate (4 : Nat) (0 : UInt64)) (Vector.replicate (4 : Nat) (0 : UInt64)) (bitsV (uV a)) (Vector.replicate (256 : Nat) false) (Vector.replicate (256 : Nat) false)) (fnK ref03_Over_C ref03_Over_r ref03_Over_hs Q))) := by kernel_rfl
theorem ref03_Over_w {k : Nat} (a : Vector UInt64 4) (b : Vector UInt64 4) {r} {Q : CallOut → Prop} (h : ref03_Over k a b = some r) (hQ : Q (ref03_Over_enc r)) : evalFnP ref03_Over_C ref03_Over_lv ref03_Over_r ref03_Over_hs ref03_Over_b [.pv (.arr .u64 4 a), .pv (.arr .u64 4 b)] [] Q :=
  Eq.mpr (ref03_Over_e a b Q) (have h := (ref03_Over_q k a b).symm.trans h; cond_ok h (fun h => ret_ok (Q := Q) (e := ref03_Over_enc) h hQ) (fun h => (ref03_Over_k0 hQ _).1 _ _ _ _ _ _ _ h))
def ref03_Over_c : Ans
  | [.pv (.arr .u64 4 a), .pv (.arr .u64 4 b)], [] => some (none, ref03_Over_enc ((ovQ a b, ovR a b, ovE b)))
  | _, _ => none
theorem ref03_Over_tok : TblOK Try.prog noG ref03_Over_T := .cons ⟨by kernel_rfl, ref03_Bits_ok⟩ (.cons ⟨by kernel_rfl, ref03_Number_ok⟩ (.cons ⟨by kernel_rfl, ref03_Less_ok⟩ (.cons ⟨by kernel_rfl, ref03_Sub_ok⟩ (.nil))))
theorem ref03_Over_ok : FnOK Try.prog noG 16 (unW ref03_Over_c) := by
  refine FnOK.ofC (T := ref03_Over_T) (nt := 66) (np := 0) (nf := false) (hs := ref03_Over_hs) (fn := Try.f16) (body := ref03_Over_b) ref03_Over_tok (by kernel_rfl) (by kernel_rfl) (by kernel_rfl) (by kernel_rfl) (c := ref03_Over_c) (lv := ref03_Over_lv) ?_
  intro xs mem p out h hp
  unfold ref03_Over_c at h
  split at h
  · cases h
    obtain ⟨k, hk⟩ := ref03_Over_spec _ _
    exact ref03_Over_w _ _ hk rfl
  · cases h
end
end Go.Proofs.Ytepcjobghbanmaa.M

namespace Go.Proofs.Ytepcjobghbanmaa.M
open Go
noncomputable section
set_option maxRecDepth 100000
set_option maxHeartbeats 0
noncomputable def ref03_Div_T : Tbl := [(29, [], ref03_Of_c), (16, [], ref03_Over_c)]
noncomputable def ref03_Div_C : CfgW := mkC Try.prog noG ref03_Div_T 22 0 false
def ref03_Div_lv : Nat → List Nat := fun i => []
noncomputable abbrev ref03_Div_b : Code := Try.f18.body.getD .skip
noncomputable abbrev ref03_Div_r : List ResultVar := Try.f18.results.toList
def ref03_Div_hs : List Nat := []

def ref03_Div_enc (r : Vector UInt64 4 × UInt64 × Int) : CallOut := ⟨.tup [.pv (.arr .u64 4 r.1), .pv (.sc .u64 r.2.1), .pv (.sc .i r.2.2)], [], true, []⟩
theorem ref03_Div_e (a : Vector UInt64 4) (n : UInt64) (Q : CallOut → Prop) : evalFnP ref03_Div_C ref03_Div_lv ref03_Div_r ref03_Div_hs ref03_Div_b [.pv (.arr .u64 4 a), .pv (.sc .u64 n)] [] Q =
    ((((0 : Int) ≤ (0 : Int)) ∧ ((0 : Int) < (4 : Int))) ∧ (Q (ref03_Div_enc ((ovQ a (uW (UInt64.toNat n))), (List.getD (Vector.toList (ovR a (uW (UInt64.toNat n)))) (0 : Nat) (0 : UInt64)), (ovE (uW (UInt64.toNat n))))))) := by kernel_rfl
theorem ref03_Div_w (a : Vector UInt64 4) (n : UInt64) {Q : CallOut → Prop} (h : Q (ref03_Div_enc (ref03_Div a n))) : evalFnP ref03_Div_C ref03_Div_lv ref03_Div_r ref03_Div_hs ref03_Div_b [.pv (.arr .u64 4 a), .pv (.sc .u64 n)] [] Q :=
  Eq.mpr (ref03_Div_e a n Q) (have h := Eq.mp (congrArg (fun r => Q (ref03_Div_enc r)) (ref03_Div_q a n)) h; ⟨by decide +kernel, h⟩)
def ref03_Div_c : Ans
  | [.pv (.arr .u64 4 a), .pv (.sc .u64 n)], [] => some (none, ref03_Div_enc ((uW (uV a / n.toNat), divR a n, divE n)))
  | _, _ => none
theorem ref03_Div_tok : TblOK Try.prog noG ref03_Div_T := .cons ⟨by kernel_rfl, ref03_Of_ok⟩ (.cons ⟨by kernel_rfl, ref03_Over_ok⟩ (.nil))
theorem ref03_Div_ok : FnOK Try.prog noG 18 (unW ref03_Div_c) := by
  refine FnOK.ofC (T := ref03_Div_T) (nt := 22) (np := 0) (nf := false) (hs := ref03_Div_hs) (fn := Try.f18) (body := ref03_Div_b) ref03_Div_tok (by kernel_rfl) (by kernel_rfl) (by kernel_rfl) (by kernel_rfl) (c := ref03_Div_c) (lv := ref03_Div_lv) ?_
  intro xs mem p out h hp
  unfold ref03_Div_c at h
  split at h
  · cases h
    exact ref03_Div_w _ _ (congrArg ref03_Div_enc (ref03_Div_spec _ _))
  · cases h
end
end Go.Proofs.Ytepcjobghbanmaa.M

namespace Go.Proofs.Ytepcjobghbanmaa.M
open Go
noncomputable section
set_option maxRecDepth 100000
set_option maxHeartbeats 0
noncomputable def ref03_Mul_T : Tbl := [(54, [], ref03_Bits_c), (55, [], ref03_Number_c)]
noncomputable def ref03_Mul_C : CfgW := mkC Try.prog noG ref03_Mul_T 83 0 false
def ref03_Mul_lv : Nat → List Nat := fun i => bif Nat.beq i 6 then [4, 7, 13, 15, 16] else bif Nat.beq i 4 then [4, 7, 13, 14] else bif Nat.beq i 2 then [1, 4, 6, 7, 8, 10, 11] else bif Nat.beq i 0 then [1, 4, 6, 7, 8] else []
noncomputable abbrev ref03_Mul_b : Code := Try.f39.body.getD .skip
noncomputable abbrev ref03_Mul_r : List ResultVar := Try.f39.results.toList
def ref03_Mul_hs : List Nat := []

def ref03_Mul_enc (r : Vector UInt64 4 × UInt64) : CallOut := ⟨.tup [.pv (.arr .u64 4 r.1), .pv (.sc .u64 r.2)], [], true, []⟩
def ref03_Mul_s0 (n : UInt64) (k_ : Int) (t4 : Vector UInt64 4) (x_ : Vector Bool 256) (all : Vector Bool 320) : St := ⟨[(1, .pv (.sc .u64 n)), (4, .p 60000 []), (6, .p 60001 []), (7, .p 60002 []), (8, .pv (.sc .i k_))], [(60000, .box (.pv (.arr .u64 4 t4))), (60001, .box (.pv (.arr .b 256 x_))), (60002, .box (.pv (.arr .b 320 all)))]⟩
def ref03_Mul_s2 (n : UInt64) (k_ : Int) (carry : Int) (i : Int) (t4 : Vector UInt64 4) (x_ : Vector Bool 256) (all : Vector Bool 320) : St := ⟨[(1, .pv (.sc .u64 n)), (4, .p 60000 []), (6, .p 60001 []), (7, .p 60002 []), (8, .pv (.sc .i k_)), (10, .pv (.sc .i carry)), (11, .pv (.sc .i i))], [(60000, .box (.pv (.arr .u64 4 t4))), (60001, .box (.pv (.arr .b 256 x_))), (60002, .box (.pv (.arr .b 320 all)))]⟩
def ref03_Mul_s4 (i : Int) (t4 : Vector UInt64 4) (all : Vector Bool 320) (low : Vector Bool 256) : St := ⟨[(4, .p 60000 []), (7, .p 60001 []), (13, .p 60002 []), (14, .pv (.sc .i i))], [(60000, .box (.pv (.arr .u64 4 t4))), (60001, .box (.pv (.arr .b 320 all))), (60002, .box (.pv (.arr .b 256 low)))]⟩
def ref03_Mul_s6 (high : UInt64) (i : Int) (t4 : Vector UInt64 4) (all : Vector Bool 320) (low : Vector Bool 256) : St := ⟨[(4, .p 60000 []), (7, .p 60001 []), (13, .p 60002 []), (15, .pv (.sc .u64 high)), (16, .pv (.sc .i i))], [(60000, .box (.pv (.arr .u64 4 t4))), (60001, .box (.pv (.arr .b 320 all))), (60002, .box (.pv (.arr .b 256 low)))]⟩
theorem ref03_Mul_g0 (n : UInt64) (k_ : Int) (t4 : Vector UInt64 4) (x_ : Vector Bool 256) (all : Vector Bool 320) (Q : CallOut → Prop) : headRound ref03_Mul_C ref03_Mul_lv [true, true, true, false, true, false] ref03_Mul_b (ref03_Mul_s0 n k_ t4 x_ all) (fnK ref03_Mul_C ref03_Mul_r ref03_Mul_hs Q) =
    (condP (decide (k_ < (64 : Int))) (((2 : UInt64) ≠ (0 : UInt64)) ∧ (((2 : UInt64) ≠ (0 : UInt64)) ∧ (condP (decide ((n % (2 : UInt64)) = (0 : UInt64))) (headP ref03_Mul_C ref03_Mul_lv [true, true, true, false, true, false] ref03_Mul_b (ref03_Mul_s0 (n / (2 : UInt64)) (w64 (k_ + (1 : Int))) t4 x_ all) (fnK ref03_Mul_C ref03_Mul_r ref03_Mul_hs Q)) (headP ref03_Mul_C ref03_Mul_lv [true, true, true, false, true, false, false, true, false, false, true, true, true, true, true, false] ref03_Mul_b (ref03_Mul_s2 (n / (2 : UInt64)) k_ (0 : Int) k_ t4 x_ all) (fnK ref03_Mul_C ref03_Mul_r ref03_Mul_hs Q))))) (headP ref03_Mul_C ref03_Mul_lv [true, true, true, true, true, false, true, false] ref03_Mul_b (ref03_Mul_s4 (0 : Int) t4 all (Vector.replicate (256 : Nat) false)) (fnK ref03_Mul_C ref03_Mul_r ref03_Mul_hs Q))) := by kernel_rfl
theorem ref03_Mul_g2 (n : UInt64) (k_ : Int) (carry : Int) (i : Int) (t4 : Vector UInt64 4) (x_ : Vector Bool 256) (all : Vector Bool 320) (Q : CallOut → Prop) : headRound ref03_Mul_C ref03_Mul_lv [true, true, true, false, true, false, false, true, false, false, true, true, true, true, true, false] ref03_Mul_b (ref03_Mul_s2 n k_ carry i t4 x_ all) (fnK ref03_Mul_C ref03_Mul_r ref03_Mul_hs Q) =
    (condP (decide (i < (320 : Int))) ((((0 : Int) ≤ i) ∧ (i < (320 : Int))) ∧ (condP (List.getD (Vector.toList all) (Int.toNat i) false) (condP (eqb (decide ((w64 (i - k_)) < (256 : Int))) true) ((((0 : Int) ≤ (w64 (i - k_))) ∧ ((w64 (i - k_)) < (256 : Int))) ∧ (condP (bif true then (List.getD (Vector.toList x_) (Int.toNat (w64 (i - k_))) false) else false) (((2 : Int) ≠ (0 : Int)) ∧ ((((0 : Int) ≤ i) ∧ (i < (320 : Int))) ∧ (((2 : Int) ≠ (0 : Int)) ∧ (headP ref03_Mul_C ref03_Mul_lv [true, true, true, false, true, false, false, true, false, false, true, true, true, true, true, false] ref03_Mul_b (ref03_Mul_s2 n k_ (w64 (Int.tdiv (w64 ((w64 (carry + (1 : Int))) + (1 : Int))) (2 : Int))) (w64 (i + (1 : Int))) t4 x_ (Vector.setIfInBounds all (Int.toNat i) (decide ((Int.tmod (w64 ((w64 (carry + (1 : Int))) + (1 : Int))) (2 : Int)) = (1 : Int))))) (fnK ref03_Mul_C ref03_Mul_r ref03_Mul_hs Q))))) (((2 : Int) ≠ (0 : Int)) ∧ ((((0 : Int) ≤ i) ∧ (i < (320 : Int))) ∧ (((2 : Int) ≠ (0 : Int)) ∧ (headP ref03_Mul_C ref03_Mul_lv [true, true, true, false, true, false, false, true, false, false, true, true, true, true, true, false] ref03_Mul_b (ref03_Mul_s2 n k_ (w64 (Int.tdiv (w64 (carry + (1 : Int))) (2 : Int))) (w64 (i + (1 : Int))) t4 x_ (Vector.setIfInBounds all (Int.toNat i) (decide ((Int.tmod (w64 (carry + (1 : Int))) (2 : Int)) = (1 : Int))))) (fnK ref03_Mul_C ref03_Mul_r ref03_Mul_hs Q))))))) (((2 : Int) ≠ (0 : Int)) ∧ ((((0 : Int) ≤ i) ∧ (i < (320 : Int))) ∧ (((2 : Int) ≠ (0 : Int)) ∧ (headP ref03_Mul_C ref03_Mul_lv [true, true, true, false, true, false, false, true, false, false, true, true, true, true, true, false] ref03_Mul_b (ref03_Mul_s2 n k_ (w64 (Int.tdiv (w64 (carry + (1 : Int))) (2 : Int))) (w64 (i + (1 : Int))) t4 x_ (Vector.setIfInBounds all (Int.toNat i) (decide ((Int.tmod (w64 (carry + (1 : Int))) (2 : Int)) = (1 : Int))))) (fnK ref03_Mul_C ref03_Mul_r ref03_Mul_hs Q)))))) (condP (eqb (decide ((w64 (i - k_)) < (256 : Int))) true) ((((0 : Int) ≤ (w64 (i - k_))) ∧ ((w64 (i - k_)) < (256 : Int))) ∧ (condP (bif true then (List.getD (Vector.toList x_) (Int.toNat (w64 (i - k_))) false) else false) (((2 : Int) ≠ (0 : Int)) ∧ ((((0 : Int) ≤ i) ∧ (i < (320 : Int))) ∧ (((2 : Int) ≠ (0 : Int)) ∧ (headP ref03_Mul_C ref03_Mul_lv [true, true, true, false, true, false, false, true, false, false, true, true, true, true, true, false] ref03_Mul_b (ref03_Mul_s2 n k_ (w64 (Int.tdiv (w64 (carry + (1 : Int))) (2 : Int))) (w64 (i + (1 : Int))) t4 x_ (Vector.setIfInBounds all (Int.toNat i) (decide ((Int.tmod (w64 (carry + (1 : Int))) (2 : Int)) = (1 : Int))))) (fnK ref03_Mul_C ref03_Mul_r ref03_Mul_hs Q))))) (((2 : Int) ≠ (0 : Int)) ∧ ((((0 : Int) ≤ i) ∧ (i < (320 : Int))) ∧ (((2 : Int) ≠ (0 : Int)) ∧ (headP ref03_Mul_C ref03_Mul_lv [true, true, true, false, true, false, false, true, false, false, true, true, true, true, true, false] ref03_Mul_b (ref03_Mul_s2 n k_ (w64 (Int.tdiv carry (2 : Int))) (w64 (i + (1 : Int))) t4 x_ (Vector.setIfInBounds all (Int.toNat i) (decide ((Int.tmod carry (2 : Int)) = (1 : Int))))) (fnK ref03_Mul_C ref03_Mul_r ref03_Mul_hs Q))))))) (((2 : Int) ≠ (0 : Int)) ∧ ((((0 : Int) ≤ i) ∧ (i < (320 : Int))) ∧ (((2 : Int) ≠ (0 : Int)) ∧ (headP ref03_Mul_C ref03_Mul_lv [true, true, true, false, true, false, false, true, false, false, true, true, true, true, true, false] ref03_Mul_b (ref03_Mul_s2 n k_ (w64 (Int.tdiv carry (2 : Int))) (w64 (i + (1 : Int))) t4 x_ (Vector.setIfInBounds all (Int.toNat i) (decide ((Int.tmod carry (2 : Int)) = (1 : Int))))) (fnK ref03_Mul_C ref03_Mul_r ref03_Mul_hs Q)))))))) (headP ref03_Mul_C ref03_Mul_lv [true, true, true, false, true, false] ref03_Mul_b (ref03_Mul_s0 n (w64 (k_ + (1 : Int))) t4 x_ all) (fnK ref03_Mul_C ref03_Mul_r ref03_Mul_hs Q))) := by kernel_rfl
theorem ref03_Mul_g4 (i : Int) (t4 : Vector UInt64 4) (all : Vector Bool 320) (low : Vector Bool 256) (Q : CallOut → Prop) : headRound ref03_Mul_C ref03_Mul_lv [true, true, true, true, true, false, true, false] ref03_Mul_b (ref03_Mul_s4 i t4 all low) (fnK ref03_Mul_C ref03_Mul_r ref03_Mul_hs Q) =
    (condP (decide (i < (256 : Int))) ((((0 : Int) ≤ i) ∧ (i < (320 : Int))) ∧ ((((0 : Int) ≤ i) ∧ (i < (256 : Int))) ∧ (headP ref03_Mul_C ref03_Mul_lv [true, true, true, true, true, false, true, false] ref03_Mul_b (ref03_Mul_s4 (w64 (i + (1 : Int))) t4 all (Vector.setIfInBounds low (Int.toNat i) (List.getD (Vector.toList all) (Int.toNat i) false))) (fnK ref03_Mul_C ref03_Mul_r ref03_Mul_hs Q)))) (headP ref03_Mul_C ref03_Mul_lv [true, true, true, true, true, true, true, false, true, false] ref03_Mul_b (ref03_Mul_s6 (0 : UInt64) (319 : Int) t4 all low) (fnK ref03_Mul_C ref03_Mul_r ref03_Mul_hs Q))) := by kernel_rfl
theorem ref03_Mul_g6 (high : UInt64) (i : Int) (t4 : Vector UInt64 4) (all : Vector Bool 320) (low : Vector Bool 256) (Q : CallOut → Prop) : headRound ref03_Mul_C ref03_Mul_lv [true, true, true, true, true, true, true, false, true, false] ref03_Mul_b (ref03_Mul_s6 high i t4 all low) (fnK ref03_Mul_C ref03_Mul_r ref03_Mul_hs Q) =
    (condP (decide ((256 : Int) ≤ i)) ((((0 : Int) ≤ i) ∧ (i < (320 : Int))) ∧ (condP (List.getD (Vector.toList all) (Int.toNat i) false) (headP ref03_Mul_C ref03_Mul_lv [true, true, true, true, true, true, true, false, true, false] ref03_Mul_b (ref03_Mul_s6 (((2 : UInt64) * high) + (1 : UInt64)) (w64 (i - (1 : Int))) t4 all low) (fnK ref03_Mul_C ref03_Mul_r ref03_Mul_hs Q)) (headP ref03_Mul_C ref03_Mul_lv [true, true, true, true, true, true, true, false, true, false] ref03_Mul_b (ref03_Mul_s6 ((2 : UInt64) * high) (w64 (i - (1 : Int))) t4 all low) (fnK ref03_Mul_C ref03_Mul_r ref03_Mul_hs Q)))) (Q (ref03_Mul_enc ((uW (bV low)), high)))) := by kernel_rfl
theorem ref03_Mul_k6 {r : Vector UInt64 4 × UInt64} {Q : CallOut → Prop} (hQ : Q (ref03_Mul_enc r)) : ∀ k : Nat, (∀ (high : UInt64) (i : Int) (t4 : Vector UInt64 4) (all : Vector Bool 320) (low : Vector Bool 256), ref03_Mul_h6 k high i t4 all low = some r → headP ref03_Mul_C ref03_Mul_lv [true, true, true, true, true, true, true, false, true, false] ref03_Mul_b (ref03_Mul_s6 high i t4 all low) (fnK ref03_Mul_C ref03_Mul_r ref03_Mul_hs Q))
  | 0 => fun _ _ _ _ _ h => no_ok h
  | k + 1 => fun high i t4 all low h => headP_step (Eq.mpr (ref03_Mul_g6 high i t4 all low Q) (have h := (ref03_Mul_h6_q k high i t4 all low).symm.trans h; cond_ok h (fun h => ite_ok h fun hc0 h => cond_ok h (fun h => (ref03_Mul_k6 hQ k) _ _ _ _ _ h) (fun h => (ref03_Mul_k6 hQ k) _ _ _ _ _ h)) (fun h => ret_ok (Q := Q) (e := ref03_Mul_enc) h hQ)))
theorem ref03_Mul_k4 {r : Vector UInt64 4 × UInt64} {Q : CallOut → Prop} (hQ : Q (ref03_Mul_enc r)) : ∀ k : Nat, (∀ (i : Int) (t4 : Vector UInt64 4) (all : Vector Bool 320) (low : Vector Bool 256), ref03_Mul_h4 k i t4 all low = some r → headP ref03_Mul_C ref03_Mul_lv [true, true, true, true, true, false, true, false] ref03_Mul_b (ref03_Mul_s4 i t4 all low) (fnK ref03_Mul_C ref03_Mul_r ref03_Mul_hs Q))
  | 0 => fun _ _ _ _ h => no_ok h
  | k + 1 => fun i t4 all low h => headP_step (Eq.mpr (ref03_Mul_g4 i t4 all low Q) (have h := (ref03_Mul_h4_q k i t4 all low).symm.trans h; cond_ok h (fun h => ite_ok h fun hc0 h => ite_ok h fun hc1 h => (ref03_Mul_k4 hQ k) _ _ _ _ h) (fun h => (ref03_Mul_k6 hQ _) _ _ _ _ _ h)))
theorem ref03_Mul_k0 {r : Vector UInt64 4 × UInt64} {Q : CallOut → Prop} (hQ : Q (ref03_Mul_enc r)) : ∀ k : Nat, (∀ (n : UInt64) (k_ : Int) (t4 : Vector UInt64 4) (x_ : Vector Bool 256) (all : Vector Bool 320), ref03_Mul_h0 k n k_ t4 x_ all = some r → headP ref03_Mul_C ref03_Mul_lv [true, true, true, false, true, false] ref03_Mul_b (ref03_Mul_s0 n k_ t4 x_ all) (fnK ref03_Mul_C ref03_Mul_r ref03_Mul_hs Q)) ∧ (∀ (n : UInt64) (k_ : Int) (carry : Int) (i : Int) (t4 : Vector UInt64 4) (x_ : Vector Bool 256) (all : Vector Bool 320), ref03_Mul_h2 k n k_ carry i t4 x_ all = some r → headP ref03_Mul_C ref03_Mul_lv [true, true, true, false, true, false, false, true, false, false, true, true, true, true, true, false] ref03_Mul_b (ref03_Mul_s2 n k_ carry i t4 x_ all) (fnK ref03_Mul_C ref03_Mul_r ref03_Mul_hs Q))
  | 0 => ⟨fun _ _ _ _ _ h => no_ok h, fun _ _ _ _ _ _ _ h => no_ok h⟩
  | k + 1 => ⟨fun n k_ t4 x_ all h => headP_step (Eq.mpr (ref03_Mul_g0 n k_ t4 x_ all Q) (have h := (ref03_Mul_h0_q k n k_ t4 x_ all).symm.trans h; cond_ok h (fun h => ⟨by decide +kernel, ⟨by decide +kernel, cond_ok h (fun h => (ref03_Mul_k0 hQ k).1 _ _ _ _ _ h) (fun h => (ref03_Mul_k0 hQ k).2 _ _ _ _ _ _ _ h)⟩⟩) (fun h => (ref03_Mul_k4 hQ _) _ _ _ _ h))),
    fun n k_ carry i t4 x_ all h => headP_step (Eq.mpr (ref03_Mul_g2 n k_ carry i t4 x_ all Q) (have h := (ref03_Mul_h2_q k n k_ carry i t4 x_ all).symm.trans h; cond_ok h (fun h => ite_ok h fun hc0 h => cond_ok h (fun h => cond_ok h (fun h => ite_ok h fun hc1 h => cond_ok h (fun h => ⟨by decide +kernel, ⟨hc0, ⟨by decide +kernel, (ref03_Mul_k0 hQ k).2 _ _ _ _ _ _ _ h⟩⟩⟩) (fun h => ⟨by decide +kernel, ⟨hc0, ⟨by decide +kernel, (ref03_Mul_k0 hQ k).2 _ _ _ _ _ _ _ h⟩⟩⟩)) (fun h => ⟨by decide +kernel, ⟨hc0, ⟨by decide +kernel, (ref03_Mul_k0 hQ k).2 _ _ _ _ _ _ _ h⟩⟩⟩)) (fun h => cond_ok h (fun h => ite_ok h fun hc1 h => cond_ok h (fun h => ⟨by decide +kernel, ⟨hc0, ⟨by decide +kernel, (ref03_Mul_k0 hQ k).2 _ _ _ _ _ _ _ h⟩⟩⟩) (fun h => ⟨by decide +kernel, ⟨hc0, ⟨by decide +kernel, (ref03_Mul_k0 hQ k).2 _ _ _ _ _ _ _ h⟩⟩⟩)) (fun h => ⟨by decide +kernel, ⟨hc0, ⟨by decide +kernel, (ref03_Mul_k0 hQ k).2 _ _ _ _ _ _ _ h⟩⟩⟩))) (fun h => (ref03_Mul_k0 hQ k).1 _ _ _ _ _ h)))⟩
theorem ref03_Mul_e (a : Vector UInt64 4) (n : UInt64) (Q : CallOut → Prop) : evalFnP ref03_Mul_C ref03_Mul_lv ref03_Mul_r ref03_Mul_hs ref03_Mul_b [.pv (.arr .u64 4 a), .pv (.sc .u64 n)] [] Q =
    (headP ref03_Mul_C ref03_Mul_lv [true, true, true, false, true, false] ref03_Mul_b (ref03_Mul_s0 n (0 : Int) (Vector.replicate (4 : Nat) (0 : UInt64)) (bitsV (uV a)) (Vector.replicate (320 : Nat) false)) (fnK ref03_Mul_C ref03_Mul_r ref03_Mul_hs Q)) := by kernel_rfl
theorem ref03_Mul_w {k : Nat} (a : Vector UInt64 4) (n : UInt64) {r} {Q : CallOut → Prop} (h : ref03_Mul k a n = some r) (hQ : Q (ref03_Mul_enc r)) : evalFnP ref03_Mul_C ref03_Mul_lv ref03_Mul_r ref03_Mul_hs ref03_Mul_b [.pv (.arr .u64 4 a), .pv (.sc .u64 n)] [] Q :=
  Eq.mpr (ref03_Mul_e a n Q) (have h := (ref03_Mul_q k a n).symm.trans h; (ref03_Mul_k0 hQ _).1 _ _ _ _ _ h)
def ref03_Mul_c : Ans
  | [.pv (.arr .u64 4 a), .pv (.sc .u64 n)], [] => some (none, ref03_Mul_enc ((uW (uV a * n.toNat), mulC a n)))
  | _, _ => none
theorem ref03_Mul_tok : TblOK Try.prog noG ref03_Mul_T := .cons ⟨by kernel_rfl, ref03_Bits_ok⟩ (.cons ⟨by kernel_rfl, ref03_Number_ok⟩ (.nil))
theorem ref03_Mul_ok : FnOK Try.prog noG 39 (unW ref03_Mul_c) := by
  refine FnOK.ofC (T := ref03_Mul_T) (nt := 83) (np := 0) (nf := false) (hs := ref03_Mul_hs) (fn := Try.f39) (body := ref03_Mul_b) ref03_Mul_tok (by kernel_rfl) (by kernel_rfl) (by kernel_rfl) (by kernel_rfl) (c := ref03_Mul_c) (lv := ref03_Mul_lv) ?_
  intro xs mem p out h hp
  unfold ref03_Mul_c at h
  split at h
  · cases h
    obtain ⟨k, hk⟩ := ref03_Mul_spec _ _
    exact ref03_Mul_w _ _ hk rfl
  · cases h
end
end Go.Proofs.Ytepcjobghbanmaa.M

namespace Go.Proofs.Ytepcjobghbanmaa.M
open Go
noncomputable section
set_option maxRecDepth 100000
set_option maxHeartbeats 0
noncomputable def ref03_Add_T : Tbl := [(54, [], ref03_Bits_c), (58, [], ref03_sum_c), (55, [], ref03_Number_c)]
noncomputable def ref03_Add_C : CfgW := mkC Try.prog noG ref03_Add_T 19 0 false
def ref03_Add_lv : Nat → List Nat := fun i => []
noncomputable abbrev ref03_Add_b : Code := Try.f21.body.getD .skip
noncomputable abbrev ref03_Add_r : List ResultVar := Try.f21.results.toList
def ref03_Add_hs : List Nat := []

def ref03_Add_enc (r : Vector UInt64 4 × Bool) : CallOut := ⟨.tup [.pv (.arr .u64 4 r.1), .pv (.sc .b r.2)], [], true, []⟩
theorem ref03_Add_e (a : Vector UInt64 4) (b : Vector UInt64 4) (Q : CallOut → Prop) : evalFnP ref03_Add_C ref03_Add_lv ref03_Add_r ref03_Add_hs ref03_Add_b [.pv (.arr .u64 4 a), .pv (.arr .u64 4 b)] [] Q =
    (Q (ref03_Add_enc ((uW (bV (bitsV (((bV (bitsV (uV a))) + (bV (bitsV (uV b)))) + (Bool.toNat false))))), (decide ((115792089237316195423570985008687907853269984665640564039457584007913129639936 : Nat) ≤ (((bV (bitsV (uV a))) + (bV (bitsV (uV b)))) + (Bool.toNat false))))))) := by kernel_rfl
theorem ref03_Add_w (a : Vector UInt64 4) (b : Vector UInt64 4) {Q : CallOut → Prop} (h : Q (ref03_Add_enc (ref03_Add a b))) : evalFnP ref03_Add_C ref03_Add_lv ref03_Add_r ref03_Add_hs ref03_Add_b [.pv (.arr .u64 4 a), .pv (.arr .u64 4 b)] [] Q :=
  Eq.mpr (ref03_Add_e a b Q) (have h := Eq.mp (congrArg (fun r => Q (ref03_Add_enc r)) (ref03_Add_q a b)) h; h)
def ref03_Add_c : Ans
  | [.pv (.arr .u64 4 a), .pv (.arr .u64 4 b)], [] => some (none, ref03_Add_enc ((addV a b, addB a b)))
  | _, _ => none
theorem ref03_Add_tok : TblOK Try.prog noG ref03_Add_T := .cons ⟨by kernel_rfl, ref03_Bits_ok⟩ (.cons ⟨by kernel_rfl, ref03_sum_ok⟩ (.cons ⟨by kernel_rfl, ref03_Number_ok⟩ (.nil)))
theorem ref03_Add_ok : FnOK Try.prog noG 21 (unW ref03_Add_c) := by
  refine FnOK.ofC (T := ref03_Add_T) (nt := 19) (np := 0) (nf := false) (hs := ref03_Add_hs) (fn := Try.f21) (body := ref03_Add_b) ref03_Add_tok (by kernel_rfl) (by kernel_rfl) (by kernel_rfl) (by kernel_rfl) (c := ref03_Add_c) (lv := ref03_Add_lv) ?_
  intro xs mem p out h hp
  unfold ref03_Add_c at h
  split at h
  · cases h
    exact ref03_Add_w _ _ (congrArg ref03_Add_enc (ref03_Add_spec _ _))
  · cases h
end
end Go.Proofs.Ytepcjobghbanmaa.M
