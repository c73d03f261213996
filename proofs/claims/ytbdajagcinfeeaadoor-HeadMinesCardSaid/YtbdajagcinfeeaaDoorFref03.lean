/- Part of the proofs: what functions of the program do: plain functions, and the walks that show it. No condition. -/
import Derived.KernelRfl
import Derived.Test.YtbdajagcinfeeaaDoorProg
import Derived.Test.YtbdajagcinfeeaaDoorLe
import Derived.Test.YtbdajagcinfeeaaDoorSwords
import Derived.Test.YtbdajagcinfeeaaDoorSbigS
import Derived.Test.YtbdajagcinfeeaaDoorSbigB
import Derived.Test.YtbdajagcinfeeaaDoorSshaK
set_option linter.unusedVariables false
set_option linter.unusedSimpArgs false
set_option autoImplicit false
namespace Go.Proofs.YtbdajagcinfeeaaDoor.M
open Go
noncomputable section
/-- the loop 0 of moneyer/moneyerref03.OfHash -/
def ref03_OfHash_h0 : Nat → Int → (Vector UInt8 32) → (Vector UInt64 4) → (Vector UInt64 4) → Option (Vector UInt64 4)
  | 0, _, _, _, _ => none
  | k + 1, i, h_, t2, a => bif decide ((0 : Int) ≤ i) then (if ((0 : Int) ≤ (w64 (Int.tdiv i (8 : Int)))) ∧ ((w64 (Int.tdiv i (8 : Int))) < (4 : Int)) then
        if ((0 : Int) ≤ i) ∧ (i < (32 : Int)) then
          ref03_OfHash_h0 k (w64 (i - (1 : Int))) h_ t2 (Vector.setIfInBounds a (Int.toNat (w64 (Int.tdiv i (8 : Int)))) (((256 : UInt64) * (List.getD (Vector.toList a) (Int.toNat (w64 (Int.tdiv i (8 : Int)))) (0 : UInt64))) + (UInt8.toUInt64 (List.getD (Vector.toList h_) (Int.toNat i) (0 : UInt8)))))
        else none
      else none)
      else (some a)
theorem ref03_OfHash_h0_q (k : Nat) (i : Int) (h_ : Vector UInt8 32) (t2 : Vector UInt64 4) (a : Vector UInt64 4) : ref03_OfHash_h0 (k + 1) i h_ t2 a =
  (bif decide ((0 : Int) ≤ i) then (if ((0 : Int) ≤ (w64 (Int.tdiv i (8 : Int)))) ∧ ((w64 (Int.tdiv i (8 : Int))) < (4 : Int)) then
        if ((0 : Int) ≤ i) ∧ (i < (32 : Int)) then
          ref03_OfHash_h0 k (w64 (i - (1 : Int))) h_ t2 (Vector.setIfInBounds a (Int.toNat (w64 (Int.tdiv i (8 : Int)))) (((256 : UInt64) * (List.getD (Vector.toList a) (Int.toNat (w64 (Int.tdiv i (8 : Int)))) (0 : UInt64))) + (UInt8.toUInt64 (List.getD (Vector.toList h_) (Int.toNat i) (0 : UInt8)))))
        else none
      else none)
      else (some a)) := by kernel_rfl
/-- moneyer/moneyerref03.OfHash -/
def ref03_OfHash (k : Nat) (h_0 : Vector UInt8 32) : Option (Vector UInt64 4) :=
  ref03_OfHash_h0 k (31 : Int) h_0 (Vector.replicate (4 : Nat) (0 : UInt64)) (Vector.replicate (4 : Nat) (0 : UInt64))
theorem ref03_OfHash_q (k : Nat) (h_0 : Vector UInt8 32) : ref03_OfHash k h_0 = (ref03_OfHash_h0 k (31 : Int) h_0 (Vector.replicate (4 : Nat) (0 : UInt64)) (Vector.replicate (4 : Nat) (0 : UInt64))) := by kernel_rfl
theorem ref03_OfHash_spec0 (h : Vector UInt8 32) : ∃ k, ref03_OfHash k h = some (uW (numU (Vector.toList h))) := by
  show Ev (fun k => ref03_OfHash k h) _
  refine Ev.same (fun k => ref03_OfHash_q k h) ?_
  have := Ev.dwn (H := fun k i a => ref03_OfHash_h0 k i h (Vector.replicate 4 0) a) (n := 32) (r := uW (numU (Vector.toList h)))
    (fun i a => ∀ j t, j < 4 → t < 64 → (gW a j).testBit t = (decide (max i (8 * j) + t / 8 < 8 * j + 8) && (numU (Vector.toList h)).testBit (8 * (max i (8 * j)) + t))) ?_ ?_ 32 (Vector.replicate 4 0) (Nat.le_refl _) ?_
  · exact this
  · intro i a hi hv next
    have ed : Int.tdiv (i : Int) 8 = ((i / 8 : Nat) : Int) := rfl
    refine Ev.step (fun k => ?_) (next (Vector.setIfInBounds a (i / 8) ((256 : UInt64) * List.getD (Vector.toList a) (i / 8) 0 + UInt8.toUInt64 (List.getD (Vector.toList h) i 0))) ?_)
    · rw [ref03_OfHash_h0_q, bif_pos (by omega), ed, w64_nat (by omega), if_pos (by omega), if_pos (by omega), w64_id (by omega) (by omega), Int.toNat_natCast, Int.toNat_natCast]
    · intro j t hj ht
      rw [gW_set _ _ _ _ (by omega)]
      by_cases e : i / 8 = j
      · have hb : (List.getD (Vector.toList h) i 0).toNat < 2 ^ 8 := (List.getD (Vector.toList h) i 0).toNat_lt
        have val : ((256 : UInt64) * List.getD (Vector.toList a) (i / 8) 0 + UInt8.toUInt64 (List.getD (Vector.toList h) i 0)).toNat = (2 ^ 8 * gW a j + (List.getD (Vector.toList h) i 0).toNat) % 2 ^ 64 := by
          rw [UInt64.toNat_add, UInt64.toNat_mul, gW_def, e, UInt8.toNat_toUInt64, show (256 : UInt64).toNat = 256 from rfl]
          omega
        rw [if_pos e, val, Nat.testBit_mod_two_pow, decide_eq_true ht, Bool.true_and, Nat.testBit_two_pow_mul_add _ hb, show max i (8 * j) = i by omega]
        by_cases c : t < 8
        · rw [if_pos c, decide_eq_true (by omega), Bool.true_and, numU_bit]
          rw [show (8 * i + t) / 8 = i by omega, show (8 * i + t) % 8 = t by omega]
        · rw [if_neg c, hv j (t - 8) hj (by omega), show max (i + 1) (8 * j) = i + 1 by omega]
          congr 1
          · rw [decide_eq_decide]; omega
          · congr 1; omega
      · rw [if_neg e, hv j t hj ht]
        by_cases c : i < 8 * j
        · rw [show max (i + 1) (8 * j) = 8 * j by omega, show max i (8 * j) = 8 * j by omega]
        · rw [decide_eq_false (by omega), decide_eq_false (by omega), Bool.false_and, Bool.false_and]
  · intro a hv
    refine Ev.done fun k => ?_
    show ref03_OfHash_h0 (k + 1) _ _ _ _ = _
    rw [ref03_OfHash_h0_q, bif_neg (by omega)]
    refine congrArg some (vecI fun j t hj ht => ?_)
    rw [hv j t hj ht, decide_eq_true (by omega), Bool.true_and, show max 0 (8 * j) = 8 * j by omega]
    congr 1; omega
  · intro j t hj ht
    rw [gW_rep, decide_eq_false (by omega), Bool.false_and, Nat.zero_testBit]

theorem ref03_OfHash_spec (h : Vector UInt8 32) : ∃ k, ref03_OfHash k h = some (hashU h) := by
  rw [hashU_eq]
  exact ref03_OfHash_spec0 h

end
end Go.Proofs.YtbdajagcinfeeaaDoor.M

namespace Go.Proofs.YtbdajagcinfeeaaDoor.M
open Go
noncomputable section
/-- moneyer/moneyerref03.Of -/
def ref03_Of (n : UInt64) : Vector UInt64 4 :=
  (Vector.setIfInBounds (Vector.replicate (4 : Nat) (0 : UInt64)) (0 : Nat) n)
theorem ref03_Of_q (n : UInt64) : ref03_Of n = ((Vector.setIfInBounds (Vector.replicate (4 : Nat) (0 : UInt64)) (0 : Nat) n)) := by kernel_rfl
theorem ref03_Of_spec (n : UInt64) : ref03_Of n = uW n.toNat := by
  have hn := n.toNat_lt
  refine w_ext fun q hq => ?_
  rw [uW_get _ _ hq]
  unfold ref03_Of gW
  rw [vget_set _ _ _ _ _ (by omega), vget_rep]
  have : q = 0 ∨ q = 1 ∨ q = 2 ∨ q = 3 := by omega
  rcases this with h | h | h | h <;> subst h <;> simp <;> omega

end
end Go.Proofs.YtbdajagcinfeeaaDoor.M

namespace Go.Proofs.YtbdajagcinfeeaaDoor.M
open Go
noncomputable section
/-- the loop 0 of moneyer/moneyerref03.ToHash -/
def ref03_ToHash_h0 : Nat → Int → (Vector UInt64 4) → (Vector UInt8 32) → (Vector UInt8 32) → Option (Vector UInt8 32)
  | 0, _, _, _, _ => none
  | k + 1, i, a, t2, h_ => bif decide (i < (32 : Int)) then (if ((0 : Int) ≤ (w64 (Int.tdiv i (8 : Int)))) ∧ ((w64 (Int.tdiv i (8 : Int))) < (4 : Int)) then
        if ((0 : Int) ≤ i) ∧ (i < (32 : Int)) then
          ref03_ToHash_h0 k (w64 (i + (1 : Int))) (Vector.setIfInBounds a (Int.toNat (w64 (Int.tdiv i (8 : Int)))) ((List.getD (Vector.toList a) (Int.toNat (w64 (Int.tdiv i (8 : Int)))) (0 : UInt64)) / (256 : UInt64))) t2 (Vector.setIfInBounds h_ (Int.toNat i) (UInt64.toUInt8 ((List.getD (Vector.toList a) (Int.toNat (w64 (Int.tdiv i (8 : Int)))) (0 : UInt64)) % (256 : UInt64))))
        else none
      else none)
      else (some h_)
theorem ref03_ToHash_h0_q (k : Nat) (i : Int) (a : Vector UInt64 4) (t2 : Vector UInt8 32) (h_ : Vector UInt8 32) : ref03_ToHash_h0 (k + 1) i a t2 h_ =
  (bif decide (i < (32 : Int)) then (if ((0 : Int) ≤ (w64 (Int.tdiv i (8 : Int)))) ∧ ((w64 (Int.tdiv i (8 : Int))) < (4 : Int)) then
        if ((0 : Int) ≤ i) ∧ (i < (32 : Int)) then
          ref03_ToHash_h0 k (w64 (i + (1 : Int))) (Vector.setIfInBounds a (Int.toNat (w64 (Int.tdiv i (8 : Int)))) ((List.getD (Vector.toList a) (Int.toNat (w64 (Int.tdiv i (8 : Int)))) (0 : UInt64)) / (256 : UInt64))) t2 (Vector.setIfInBounds h_ (Int.toNat i) (UInt64.toUInt8 ((List.getD (Vector.toList a) (Int.toNat (w64 (Int.tdiv i (8 : Int)))) (0 : UInt64)) % (256 : UInt64))))
        else none
      else none)
      else (some h_)) := by kernel_rfl
/-- moneyer/moneyerref03.ToHash -/
def ref03_ToHash (k : Nat) (a : Vector UInt64 4) : Option (Vector UInt8 32) :=
  ref03_ToHash_h0 k (0 : Int) a (Vector.replicate (32 : Nat) (0 : UInt8)) (Vector.replicate (32 : Nat) (0 : UInt8))
theorem ref03_ToHash_q (k : Nat) (a : Vector UInt64 4) : ref03_ToHash k a = (ref03_ToHash_h0 k (0 : Int) a (Vector.replicate (32 : Nat) (0 : UInt8)) (Vector.replicate (32 : Nat) (0 : UInt8))) := by kernel_rfl
theorem ref03_ToHash_spec (a : Vector UInt64 4) : ∃ k, ref03_ToHash k a = some (hashV (uV a)) := by
  show Ev (fun k => ref03_ToHash k a) _
  refine Ev.same (fun k => ref03_ToHash_q k a) ?_
  refine Ev.inv (H := fun k i (s : Vector UInt64 4 × Vector UInt8 32) => ref03_ToHash_h0 k i s.1 (Vector.replicate 32 0) s.2) (n := 32)
    (fun i s => (∀ j t, j < 4 → t < 64 → (gW s.1 j).testBit t = (decide (8 * (i - 8 * j) + t < 64) && (uV a).testBit (64 * j + (8 * (i - 8 * j) + t)))) ∧ ∀ j t, j < i → t < 8 → (List.getD (Vector.toList s.2) j 0).toNat.testBit t = (uV a).testBit (8 * j + t)) ?_ ?_ 32 0 (a, _) rfl ?_
  · intro i s hi hv next
    obtain ⟨hv, hw⟩ := hv
    have ed : Int.tdiv (i : Int) 8 = ((i / 8 : Nat) : Int) := rfl
    refine Ev.step (fun k => ?_) (next (Vector.setIfInBounds s.1 (i / 8) (List.getD (Vector.toList s.1) (i / 8) 0 / 256), Vector.setIfInBounds s.2 i (UInt64.toUInt8 (List.getD (Vector.toList s.1) (i / 8) 0 % 256))) ⟨?_, ?_⟩)
    · rw [ref03_ToHash_h0_q, bif_pos (by omega), ed, w64_nat (by omega), if_pos (by omega), if_pos (by omega), w64_id (by omega) (by omega), Int.toNat_natCast, Int.toNat_natCast]
    · intro j t hj ht
      show (gW (Vector.setIfInBounds s.1 (i / 8) _) j).testBit t = _
      rw [gW_set _ _ _ _ (by omega)]
      by_cases e : i / 8 = j
      · rw [if_pos e, UInt64.toNat_div, gW_def, show (256 : UInt64).toNat = 2 ^ 8 from rfl, Nat.testBit_div_two_pow, e]
        by_cases c : t + 8 < 64
        · rw [hv j (t + 8) hj c]
          congr 1
          · rw [decide_eq_decide]; omega
          · congr 1; omega
        · rw [gW_high _ _ _ (by omega), decide_eq_false (by omega), Bool.false_and]
      · rw [if_neg e, hv j t hj ht]
        by_cases c : i < 8 * j
        · rw [show i + 1 - 8 * j = i - 8 * j by omega]
        · rw [decide_eq_false (by omega), decide_eq_false (by omega), Bool.false_and, Bool.false_and]
    · intro j t hj ht
      show (List.getD (Vector.toList (Vector.setIfInBounds s.2 i _)) j 0).toNat.testBit t = _
      rw [vget_set _ _ _ _ _ hi]
      by_cases e : i = j
      · subst e
        rw [if_pos rfl, UInt64.toNat_toUInt8, UInt64.toNat_mod, show (256 : UInt64).toNat = 2 ^ 8 from rfl, Nat.mod_mod, Nat.testBit_mod_two_pow, decide_eq_true ht, Bool.true_and, gW_def, hv _ _ (by omega) (by omega), decide_eq_true (by omega), Bool.true_and]
        congr 1; omega
      · rw [if_neg e]
        exact hw j t (by omega) ht
  · intro s hv
    refine Ev.done fun k => ?_
    show ref03_ToHash_h0 (k + 1) _ _ _ _ = _
    rw [ref03_ToHash_h0_q, bif_neg (by omega)]
    exact congrArg some (hashV_ext hv.2)
  · refine ⟨fun j t hj ht => ?_, fun j t hj ht => by omega⟩
    rw [gW_bit _ _ _ hj ht, decide_eq_true (by omega), Bool.true_and]
    congr 1; omega

end
end Go.Proofs.YtbdajagcinfeeaaDoor.M

namespace Go.Proofs.YtbdajagcinfeeaaDoor.M
open Go
noncomputable section
mutual
/-- the loop 0 of moneyer/moneyerref03.Bits -/
def ref03_Bits_h0 : Nat → Int → (Vector UInt64 4) → (Vector Bool 256) → (Vector Bool 256) → Option (Vector Bool 256)
  | 0, _, _, _, _ => none
  | k + 1, i, a, t2, l => bif decide (i < (256 : Int)) then (if ((0 : Int) ≤ (w64 (Int.tdiv i (64 : Int)))) ∧ ((w64 (Int.tdiv i (64 : Int))) < (4 : Int)) then
        ref03_Bits_h2 k i (List.getD (Vector.toList a) (Int.toNat (w64 (Int.tdiv i (64 : Int)))) (0 : UInt64)) (0 : Int) a t2 l
      else none)
      else (some l)
/-- the loop 2 of moneyer/moneyerref03.Bits -/
def ref03_Bits_h2 : Nat → Int → UInt64 → Int → (Vector UInt64 4) → (Vector Bool 256) → (Vector Bool 256) → Option (Vector Bool 256)
  | 0, _, _, _, _, _, _ => none
  | k + 1, i, n, k_, a, t2, l => bif decide (k_ < (Int.tmod i (64 : Int))) then (ref03_Bits_h2 k i (n / (2 : UInt64)) (w64 (k_ + (1 : Int))) a t2 l)
      else (if ((0 : Int) ≤ i) ∧ (i < (256 : Int)) then
        ref03_Bits_h0 k (w64 (i + (1 : Int))) a t2 (Vector.setIfInBounds l (Int.toNat i) (decide ((n % (2 : UInt64)) = (1 : UInt64))))
      else none)
end
theorem ref03_Bits_h0_q (k : Nat) (i : Int) (a : Vector UInt64 4) (t2 : Vector Bool 256) (l : Vector Bool 256) : ref03_Bits_h0 (k + 1) i a t2 l =
  (bif decide (i < (256 : Int)) then (if ((0 : Int) ≤ (w64 (Int.tdiv i (64 : Int)))) ∧ ((w64 (Int.tdiv i (64 : Int))) < (4 : Int)) then
        ref03_Bits_h2 k i (List.getD (Vector.toList a) (Int.toNat (w64 (Int.tdiv i (64 : Int)))) (0 : UInt64)) (0 : Int) a t2 l
      else none)
      else (some l)) := by kernel_rfl
theorem ref03_Bits_h2_q (k : Nat) (i : Int) (n : UInt64) (k_ : Int) (a : Vector UInt64 4) (t2 : Vector Bool 256) (l : Vector Bool 256) : ref03_Bits_h2 (k + 1) i n k_ a t2 l =
  (bif decide (k_ < (Int.tmod i (64 : Int))) then (ref03_Bits_h2 k i (n / (2 : UInt64)) (w64 (k_ + (1 : Int))) a t2 l)
      else (if ((0 : Int) ≤ i) ∧ (i < (256 : Int)) then
        ref03_Bits_h0 k (w64 (i + (1 : Int))) a t2 (Vector.setIfInBounds l (Int.toNat i) (decide ((n % (2 : UInt64)) = (1 : UInt64))))
      else none)) := by kernel_rfl
/-- moneyer/moneyerref03.Bits -/
def ref03_Bits (k : Nat) (a : Vector UInt64 4) : Option (Vector Bool 256) :=
  ref03_Bits_h0 k (0 : Int) a (Vector.replicate (256 : Nat) false) (Vector.replicate (256 : Nat) false)
theorem ref03_Bits_q (k : Nat) (a : Vector UInt64 4) : ref03_Bits k a = (ref03_Bits_h0 k (0 : Int) a (Vector.replicate (256 : Nat) false) (Vector.replicate (256 : Nat) false)) := by kernel_rfl
theorem ref03_Bits_spec (a : Vector UInt64 4) : ∃ k, ref03_Bits k a = some (bitsV (uV a)) := by
  show Ev (fun k => ref03_Bits k a) _
  refine Ev.same (fun k => ref03_Bits_q k a) ?_
  have inner : ∀ (i : Nat), i < 256 → ∀ (l : Vector Bool 256) (r : Vector Bool 256), Ev (fun f => ref03_Bits_h0 f ((i : Int) + 1) a (Vector.replicate 256 false) (Vector.setIfInBounds l i ((uV a).testBit i))) r →
      Ev (fun f => ref03_Bits_h2 f i (List.getD (Vector.toList a) (i / 64) 0) 0 a (Vector.replicate 256 false) l) r := by
    intro i hi l r e
    have gen : ∀ j k, k + j = i % 64 → ∀ n : UInt64, n.toNat = gW a (i / 64) / 2 ^ k → Ev (fun f => ref03_Bits_h2 f i n ((k : Nat) : Int) a (Vector.replicate 256 false) l) r := by
      have em : Int.tmod (i : Int) 64 = ((i % 64 : Nat) : Int) := rfl
      intro j
      induction j with
      | zero =>
        intro k hk n hn
        refine Ev.step (fun f => ?_) e
        have hb : decide (n % 2 = 1) = (uV a).testBit i := by
          rw [uV_bit a i hi, Nat.testBit_eq_decide_div_mod_eq]
          rw [decide_eq_decide, ← UInt64.toNat_inj, UInt64.toNat_mod, hn]
          rw [show k = i % 64 by omega]
          rfl
        rw [ref03_Bits_h2_q, em, bif_neg (by omega), if_pos (by omega), hb, Int.toNat_natCast, w64_id (by omega) (by omega)]
      | succ j ih =>
        intro k hk n hn
        refine Ev.step (fun f => ?_) (ih (k + 1) (by omega) (n / 2) ?_)
        · rw [ref03_Bits_h2_q, em, bif_pos (by omega), w64_id (by omega) (by omega)]
          rfl
        · rw [UInt64.toNat_div, hn, Nat.pow_succ, ← Nat.div_div_eq_div_mul]
          rfl
    exact gen (i % 64) 0 (by omega) _ (by rw [Nat.pow_zero, Nat.div_one]; rfl)
  refine Ev.up (H := fun k i l => ref03_Bits_h0 k i a (Vector.replicate 256 false) l) (lo := 0) (n := 256) (step := fun i l => Vector.setIfInBounds l i ((uV a).testBit i)) ?_ 256 0 _ (Nat.le_refl 0) rfl ?_
  · intro i l _ hi e
    have ed : Int.tdiv (i : Int) 64 = ((i / 64 : Nat) : Int) := rfl
    refine Ev.step (fun f => ?_) (inner i hi l _ e)
    rw [ref03_Bits_h0_q, bif_pos (by omega), ed, w64_id (by omega) (by omega), if_pos (by omega), Int.toNat_natCast]
  · refine Ev.done fun f => ?_
    rw [ref03_Bits_h0_q, bif_neg (by omega), iterUp_fill (fun i => (uV a).testBit i)]
    rfl

end
end Go.Proofs.YtbdajagcinfeeaaDoor.M

namespace Go.Proofs.YtbdajagcinfeeaaDoor.M
open Go
noncomputable section
/-- the loop 0 of moneyer/moneyerref03.Less -/
def ref03_Less_h0 : Nat → Int → (Vector Bool 256) → (Vector Bool 256) → Option (Bool)
  | 0, _, _, _ => none
  | k + 1, i, x_, y => bif decide ((0 : Int) ≤ i) then (if ((0 : Int) ≤ i) ∧ (i < (256 : Int)) then
        bif !(decide ((List.getD (Vector.toList x_) (Int.toNat i) false) = (List.getD (Vector.toList y) (Int.toNat i) false))) then (some (List.getD (Vector.toList y) (Int.toNat i) false))
          else (ref03_Less_h0 k (w64 (i - (1 : Int))) x_ y)
      else none)
      else (some false)
theorem ref03_Less_h0_q (k : Nat) (i : Int) (x_ : Vector Bool 256) (y : Vector Bool 256) : ref03_Less_h0 (k + 1) i x_ y =
  (bif decide ((0 : Int) ≤ i) then (if ((0 : Int) ≤ i) ∧ (i < (256 : Int)) then
        bif !(decide ((List.getD (Vector.toList x_) (Int.toNat i) false) = (List.getD (Vector.toList y) (Int.toNat i) false))) then (some (List.getD (Vector.toList y) (Int.toNat i) false))
          else (ref03_Less_h0 k (w64 (i - (1 : Int))) x_ y)
      else none)
      else (some false)) := by kernel_rfl
/-- moneyer/moneyerref03.Less -/
def ref03_Less (k : Nat) (a : Vector UInt64 4) (b : Vector UInt64 4) : Option (Bool) :=
  ref03_Less_h0 k (255 : Int) (bitsV (uV a)) (bitsV (uV b))
theorem ref03_Less_q (k : Nat) (a : Vector UInt64 4) (b : Vector UInt64 4) : ref03_Less k a b = (ref03_Less_h0 k (255 : Int) (bitsV (uV a)) (bitsV (uV b))) := by kernel_rfl
theorem ref03_Less_spec0 (a b : Vector UInt64 4) : ∃ k, ref03_Less k a b = some (decide (uV a < uV b)) := by
  show Ev (fun k => ref03_Less k a b) _
  refine Ev.same (fun k => ref03_Less_q k a b) ?_
  have gen : ∀ i : Nat, i ≤ 256 → uV a / 2 ^ i = uV b / 2 ^ i → Ev (fun f => ref03_Less_h0 f ((i : Int) - 1) (bitsV (uV a)) (bitsV (uV b))) (decide (uV a < uV b)) := by
    intro i
    induction i with
    | zero =>
      intro _ h
      rw [Nat.pow_zero, Nat.div_one, Nat.div_one] at h
      refine Ev.done fun f => ?_
      rw [ref03_Less_h0_q, bif_neg (by omega), decide_eq_false (by omega)]
    | succ i ih =>
      intro hi h
      have e1 : ((i + 1 : Nat) : Int) - 1 = (i : Int) := by omega
      have ha := bit_split (uV a) i
      have hb := bit_split (uV b) i
      have hp : 0 < 2 ^ i := Nat.two_pow_pos i
      have st : ∀ f, ref03_Less_h0 (f + 1) (((i + 1 : Nat) : Int) - 1) (bitsV (uV a)) (bitsV (uV b)) = bif !(decide ((uV a).testBit i = (uV b).testBit i)) then some ((uV b).testBit i) else ref03_Less_h0 f ((i : Int) - 1) (bitsV (uV a)) (bitsV (uV b)) := by
        intro f
        rw [e1, ref03_Less_h0_q, bif_pos (by omega), if_pos (by omega), Int.toNat_natCast, bitsV_get _ _ (by omega), bitsV_get _ _ (by omega), w64_id (by omega) (by omega)]
      have lt_of : ∀ x y : Nat, x / 2 ^ i < y / 2 ^ i → x < y := by
        intro x y hxy
        by_cases q : x < y
        · exact q
        · have := Nat.div_le_div_right (c := 2 ^ i) (Nat.le_of_not_lt q)
          omega
      by_cases e : (uV a).testBit i = (uV b).testBit i
      · refine Ev.step (fun f => by rw [st f, decide_eq_true e]; rfl) (ih (by omega) ?_)
        rw [ha, hb, h, e]
      · refine Ev.done fun f => ?_
        rw [st f, decide_eq_false e]
        show some _ = some _
        congr 1
        cases h1 : (uV a).testBit i <;> cases h2 : (uV b).testBit i
        · rw [h1, h2] at e; exact absurd rfl e
        · rw [h1] at ha
          rw [h2] at hb
          have := lt_of (uV a) (uV b) (by simp at ha hb; omega)
          rw [decide_eq_true this]
        · rw [h1] at ha
          rw [h2] at hb
          have := lt_of (uV b) (uV a) (by simp at ha hb; omega)
          rw [decide_eq_false (by omega)]
        · rw [h1, h2] at e; exact absurd rfl e
  have ea := Nat.div_eq_of_lt (show uV a < 2 ^ 256 from uV_lt a)
  have eb := Nat.div_eq_of_lt (show uV b < 2 ^ 256 from uV_lt b)
  exact gen 256 (Nat.le_refl _) (by rw [ea, eb])

theorem ref03_Less_spec (a b : Vector UInt64 4) : ∃ k, ref03_Less k a b = some (subB a b) := by
  rw [subB_eq]
  exact ref03_Less_spec0 a b

end
end Go.Proofs.YtbdajagcinfeeaaDoor.M

namespace Go.Proofs.YtbdajagcinfeeaaDoor.M
open Go
noncomputable section
set_option maxRecDepth 100000
set_option maxHeartbeats 0
noncomputable def ref03_OfHash_T : Tbl := []
noncomputable def ref03_OfHash_C : CfgW := mkC Tryd.prog theG ref03_OfHash_T 23 0 false
def ref03_OfHash_lv : Nat → List Nat := fun i => bif Nat.beq i 0 then [1, 2, 3, 4] else []
noncomputable abbrev ref03_OfHash_b : Code := Tryd.f66.body.getD .skip
noncomputable abbrev ref03_OfHash_r : List ResultVar := Tryd.f66.results.toList
def ref03_OfHash_hs : List Nat := []

def ref03_OfHash_enc (r : Vector UInt64 4) : CallOut := ⟨.pv (.arr .u64 4 r), [], true, []⟩
def ref03_OfHash_s0 (i : Int) (h_ : Vector UInt8 32) (t2 : Vector UInt64 4) (a : Vector UInt64 4) : St := ⟨[(1, .p 60000 []), (2, .p 60001 []), (3, .p 60002 []), (4, .pv (.sc .i i))], [(60000, .box (.pv (.arr .u8 32 h_))), (60001, .box (.pv (.arr .u64 4 t2))), (60002, .box (.pv (.arr .u64 4 a)))]⟩
theorem ref03_OfHash_g0 (i : Int) (h_ : Vector UInt8 32) (t2 : Vector UInt64 4) (a : Vector UInt64 4) (Q : CallOut → Prop) : headRound ref03_OfHash_C ref03_OfHash_lv [true, true, false, true, false] ref03_OfHash_b (ref03_OfHash_s0 i h_ t2 a) (fnK ref03_OfHash_C ref03_OfHash_r ref03_OfHash_hs Q) =
    (condP (decide ((0 : Int) ≤ i)) (((8 : Int) ≠ (0 : Int)) ∧ (((8 : Int) ≠ (0 : Int)) ∧ ((((0 : Int) ≤ (w64 (Int.tdiv i (8 : Int)))) ∧ ((w64 (Int.tdiv i (8 : Int))) < (4 : Int))) ∧ ((((0 : Int) ≤ i) ∧ (i < (32 : Int))) ∧ ((((0 : Int) ≤ (w64 (Int.tdiv i (8 : Int)))) ∧ ((w64 (Int.tdiv i (8 : Int))) < (4 : Int))) ∧ (headP ref03_OfHash_C ref03_OfHash_lv [true, true, false, true, false] ref03_OfHash_b (ref03_OfHash_s0 (w64 (i - (1 : Int))) h_ t2 (Vector.setIfInBounds a (Int.toNat (w64 (Int.tdiv i (8 : Int)))) (((256 : UInt64) * (List.getD (Vector.toList a) (Int.toNat (w64 (Int.tdiv i (8 : Int)))) (0 : UInt64))) + (UInt8.toUInt64 (List.getD (Vector.toList h_) (Int.toNat i) (0 : UInt8)))))) (fnK ref03_OfHash_C ref03_OfHash_r ref03_OfHash_hs Q))))))) (Q (ref03_OfHash_enc a))) := by kernel_rfl
theorem ref03_OfHash_k0 {r : Vector UInt64 4} {Q : CallOut → Prop} (hQ : Q (ref03_OfHash_enc r)) : ∀ k : Nat, (∀ (i : Int) (h_ : Vector UInt8 32) (t2 : Vector UInt64 4) (a : Vector UInt64 4), ref03_OfHash_h0 k i h_ t2 a = some r → headP ref03_OfHash_C ref03_OfHash_lv [true, true, false, true, false] ref03_OfHash_b (ref03_OfHash_s0 i h_ t2 a) (fnK ref03_OfHash_C ref03_OfHash_r ref03_OfHash_hs Q))
  | 0 => fun _ _ _ _ h => no_ok h
  | k + 1 => fun i h_ t2 a h => headP_step (Eq.mpr (ref03_OfHash_g0 i h_ t2 a Q) (have h := (ref03_OfHash_h0_q k i h_ t2 a).symm.trans h; cond_ok h (fun h => ⟨by decide +kernel, ⟨by decide +kernel, ite_ok h fun hc0 h => ite_ok h fun hc1 h => ⟨hc0, (ref03_OfHash_k0 hQ k) _ _ _ _ h⟩⟩⟩) (fun h => ret_ok (Q := Q) (e := ref03_OfHash_enc) h hQ)))
theorem ref03_OfHash_e (h_0 : Vector UInt8 32) (Q : CallOut → Prop) : evalFnP ref03_OfHash_C ref03_OfHash_lv ref03_OfHash_r ref03_OfHash_hs ref03_OfHash_b [.pv (.arr .u8 32 h_0)] [] Q =
    (headP ref03_OfHash_C ref03_OfHash_lv [true, true, false, true, false] ref03_OfHash_b (ref03_OfHash_s0 (31 : Int) h_0 (Vector.replicate (4 : Nat) (0 : UInt64)) (Vector.replicate (4 : Nat) (0 : UInt64))) (fnK ref03_OfHash_C ref03_OfHash_r ref03_OfHash_hs Q)) := by kernel_rfl
theorem ref03_OfHash_w {k : Nat} (h_0 : Vector UInt8 32) {r} {Q : CallOut → Prop} (h : ref03_OfHash k h_0 = some r) (hQ : Q (ref03_OfHash_enc r)) : evalFnP ref03_OfHash_C ref03_OfHash_lv ref03_OfHash_r ref03_OfHash_hs ref03_OfHash_b [.pv (.arr .u8 32 h_0)] [] Q :=
  Eq.mpr (ref03_OfHash_e h_0 Q) (have h := (ref03_OfHash_q k h_0).symm.trans h; (ref03_OfHash_k0 hQ _) _ _ _ _ h)
def ref03_OfHash_c : Ans
  | [.pv (.arr .u8 32 h_0)], [] => some (none, ref03_OfHash_enc (hashU h_0))
  | _, _ => none
theorem ref03_OfHash_tok : TblOK Tryd.prog theG ref03_OfHash_T := .nil
theorem ref03_OfHash_ok : FnOK Tryd.prog theG 66 (unW ref03_OfHash_c) := by
  refine FnOK.ofC (T := ref03_OfHash_T) (nt := 23) (np := 0) (mv := []) (nf := false) (hs := ref03_OfHash_hs) (fn := Tryd.f66) (body := ref03_OfHash_b) ref03_OfHash_tok (by kernel_rfl) (by kernel_rfl) (by kernel_rfl) (by kernel_rfl) (c := ref03_OfHash_c) (lv := ref03_OfHash_lv) ?_
  intro xs mem p out h hp
  unfold ref03_OfHash_c at h
  split at h
  · cases h
    obtain ⟨k, hk⟩ := ref03_OfHash_spec _
    exact ref03_OfHash_w _ hk rfl
  · cases h
end
end Go.Proofs.YtbdajagcinfeeaaDoor.M

namespace Go.Proofs.YtbdajagcinfeeaaDoor.M
open Go
noncomputable section
set_option maxRecDepth 100000
set_option maxHeartbeats 0
noncomputable def ref03_Of_T : Tbl := []
noncomputable def ref03_Of_C : CfgW := mkC Tryd.prog theG ref03_Of_T 7 0 false
def ref03_Of_lv : Nat → List Nat := fun i => []
noncomputable abbrev ref03_Of_b : Code := Tryd.f74.body.getD .skip
noncomputable abbrev ref03_Of_r : List ResultVar := Tryd.f74.results.toList
def ref03_Of_hs : List Nat := []

def ref03_Of_enc (r : Vector UInt64 4) : CallOut := ⟨.pv (.arr .u64 4 r), [], true, []⟩
theorem ref03_Of_e (n : UInt64) (Q : CallOut → Prop) : evalFnP ref03_Of_C ref03_Of_lv ref03_Of_r ref03_Of_hs ref03_Of_b [.pv (.sc .u64 n)] [] Q =
    ((((0 : Int) ≤ (0 : Int)) ∧ ((0 : Int) < (4 : Int))) ∧ (Q (ref03_Of_enc (Vector.setIfInBounds (Vector.replicate (4 : Nat) (0 : UInt64)) (0 : Nat) n)))) := by kernel_rfl
theorem ref03_Of_w (n : UInt64) {Q : CallOut → Prop} (h : Q (ref03_Of_enc (ref03_Of n))) : evalFnP ref03_Of_C ref03_Of_lv ref03_Of_r ref03_Of_hs ref03_Of_b [.pv (.sc .u64 n)] [] Q :=
  Eq.mpr (ref03_Of_e n Q) (have h := Eq.mp (congrArg (fun r => Q (ref03_Of_enc r)) (ref03_Of_q n)) h; ⟨by decide +kernel, h⟩)
def ref03_Of_c : Ans
  | [.pv (.sc .u64 n)], [] => some (none, ref03_Of_enc (uW n.toNat))
  | _, _ => none
theorem ref03_Of_tok : TblOK Tryd.prog theG ref03_Of_T := .nil
theorem ref03_Of_ok : FnOK Tryd.prog theG 74 (unW ref03_Of_c) := by
  refine FnOK.ofC (T := ref03_Of_T) (nt := 7) (np := 0) (mv := []) (nf := false) (hs := ref03_Of_hs) (fn := Tryd.f74) (body := ref03_Of_b) ref03_Of_tok (by kernel_rfl) (by kernel_rfl) (by kernel_rfl) (by kernel_rfl) (c := ref03_Of_c) (lv := ref03_Of_lv) ?_
  intro xs mem p out h hp
  unfold ref03_Of_c at h
  split at h
  · cases h
    exact ref03_Of_w _ (congrArg ref03_Of_enc (ref03_Of_spec _))
  · cases h
end
end Go.Proofs.YtbdajagcinfeeaaDoor.M

namespace Go.Proofs.YtbdajagcinfeeaaDoor.M
open Go
noncomputable section
set_option maxRecDepth 100000
set_option maxHeartbeats 0
noncomputable def ref03_ToHash_T : Tbl := []
noncomputable def ref03_ToHash_C : CfgW := mkC Tryd.prog theG ref03_ToHash_T 26 0 false
def ref03_ToHash_lv : Nat → List Nat := fun i => bif Nat.beq i 0 then [1, 2, 3, 4] else []
noncomputable abbrev ref03_ToHash_b : Code := Tryd.f87.body.getD .skip
noncomputable abbrev ref03_ToHash_r : List ResultVar := Tryd.f87.results.toList
def ref03_ToHash_hs : List Nat := []

def ref03_ToHash_enc (r : Vector UInt8 32) : CallOut := ⟨.pv (.arr .u8 32 r), [], true, []⟩
def ref03_ToHash_s0 (i : Int) (a : Vector UInt64 4) (t2 : Vector UInt8 32) (h_ : Vector UInt8 32) : St := ⟨[(1, .p 60000 []), (2, .p 60001 []), (3, .p 60002 []), (4, .pv (.sc .i i))], [(60000, .box (.pv (.arr .u64 4 a))), (60001, .box (.pv (.arr .u8 32 t2))), (60002, .box (.pv (.arr .u8 32 h_)))]⟩
theorem ref03_ToHash_g0 (i : Int) (a : Vector UInt64 4) (t2 : Vector UInt8 32) (h_ : Vector UInt8 32) (Q : CallOut → Prop) : headRound ref03_ToHash_C ref03_ToHash_lv [true, true, false, true, false] ref03_ToHash_b (ref03_ToHash_s0 i a t2 h_) (fnK ref03_ToHash_C ref03_ToHash_r ref03_ToHash_hs Q) =
    (condP (decide (i < (32 : Int))) (((8 : Int) ≠ (0 : Int)) ∧ ((((0 : Int) ≤ (w64 (Int.tdiv i (8 : Int)))) ∧ ((w64 (Int.tdiv i (8 : Int))) < (4 : Int))) ∧ (((256 : UInt64) ≠ (0 : UInt64)) ∧ ((((0 : Int) ≤ i) ∧ (i < (32 : Int))) ∧ (((8 : Int) ≠ (0 : Int)) ∧ (((8 : Int) ≠ (0 : Int)) ∧ ((((0 : Int) ≤ (w64 (Int.tdiv i (8 : Int)))) ∧ ((w64 (Int.tdiv i (8 : Int))) < (4 : Int))) ∧ (((256 : UInt64) ≠ (0 : UInt64)) ∧ ((((0 : Int) ≤ (w64 (Int.tdiv i (8 : Int)))) ∧ ((w64 (Int.tdiv i (8 : Int))) < (4 : Int))) ∧ (headP ref03_ToHash_C ref03_ToHash_lv [true, true, false, true, false] ref03_ToHash_b (ref03_ToHash_s0 (w64 (i + (1 : Int))) (Vector.setIfInBounds a (Int.toNat (w64 (Int.tdiv i (8 : Int)))) ((List.getD (Vector.toList a) (Int.toNat (w64 (Int.tdiv i (8 : Int)))) (0 : UInt64)) / (256 : UInt64))) t2 (Vector.setIfInBounds h_ (Int.toNat i) (UInt64.toUInt8 ((List.getD (Vector.toList a) (Int.toNat (w64 (Int.tdiv i (8 : Int)))) (0 : UInt64)) % (256 : UInt64))))) (fnK ref03_ToHash_C ref03_ToHash_r ref03_ToHash_hs Q))))))))))) (Q (ref03_ToHash_enc h_))) := by kernel_rfl
theorem ref03_ToHash_k0 {r : Vector UInt8 32} {Q : CallOut → Prop} (hQ : Q (ref03_ToHash_enc r)) : ∀ k : Nat, (∀ (i : Int) (a : Vector UInt64 4) (t2 : Vector UInt8 32) (h_ : Vector UInt8 32), ref03_ToHash_h0 k i a t2 h_ = some r → headP ref03_ToHash_C ref03_ToHash_lv [true, true, false, true, false] ref03_ToHash_b (ref03_ToHash_s0 i a t2 h_) (fnK ref03_ToHash_C ref03_ToHash_r ref03_ToHash_hs Q))
  | 0 => fun _ _ _ _ h => no_ok h
  | k + 1 => fun i a t2 h_ h => headP_step (Eq.mpr (ref03_ToHash_g0 i a t2 h_ Q) (have h := (ref03_ToHash_h0_q k i a t2 h_).symm.trans h; cond_ok h (fun h => ⟨by decide +kernel, ite_ok h fun hc0 h => ⟨by decide +kernel, ite_ok h fun hc1 h => ⟨by decide +kernel, ⟨by decide +kernel, ⟨hc0, ⟨by decide +kernel, ⟨hc0, (ref03_ToHash_k0 hQ k) _ _ _ _ h⟩⟩⟩⟩⟩⟩⟩) (fun h => ret_ok (Q := Q) (e := ref03_ToHash_enc) h hQ)))
theorem ref03_ToHash_e (a : Vector UInt64 4) (Q : CallOut → Prop) : evalFnP ref03_ToHash_C ref03_ToHash_lv ref03_ToHash_r ref03_ToHash_hs ref03_ToHash_b [.pv (.arr .u64 4 a)] [] Q =
    (headP ref03_ToHash_C ref03_ToHash_lv [true, true, false, true, false] ref03_ToHash_b (ref03_ToHash_s0 (0 : Int) a (Vector.replicate (32 : Nat) (0 : UInt8)) (Vector.replicate (32 : Nat) (0 : UInt8))) (fnK ref03_ToHash_C ref03_ToHash_r ref03_ToHash_hs Q)) := by kernel_rfl
theorem ref03_ToHash_w {k : Nat} (a : Vector UInt64 4) {r} {Q : CallOut → Prop} (h : ref03_ToHash k a = some r) (hQ : Q (ref03_ToHash_enc r)) : evalFnP ref03_ToHash_C ref03_ToHash_lv ref03_ToHash_r ref03_ToHash_hs ref03_ToHash_b [.pv (.arr .u64 4 a)] [] Q :=
  Eq.mpr (ref03_ToHash_e a Q) (have h := (ref03_ToHash_q k a).symm.trans h; (ref03_ToHash_k0 hQ _) _ _ _ _ h)
def ref03_ToHash_c : Ans
  | [.pv (.arr .u64 4 a)], [] => some (none, ref03_ToHash_enc (hashV (uV a)))
  | _, _ => none
theorem ref03_ToHash_tok : TblOK Tryd.prog theG ref03_ToHash_T := .nil
theorem ref03_ToHash_ok : FnOK Tryd.prog theG 87 (unW ref03_ToHash_c) := by
  refine FnOK.ofC (T := ref03_ToHash_T) (nt := 26) (np := 0) (mv := []) (nf := false) (hs := ref03_ToHash_hs) (fn := Tryd.f87) (body := ref03_ToHash_b) ref03_ToHash_tok (by kernel_rfl) (by kernel_rfl) (by kernel_rfl) (by kernel_rfl) (c := ref03_ToHash_c) (lv := ref03_ToHash_lv) ?_
  intro xs mem p out h hp
  unfold ref03_ToHash_c at h
  split at h
  · cases h
    obtain ⟨k, hk⟩ := ref03_ToHash_spec _
    exact ref03_ToHash_w _ hk rfl
  · cases h
end
end Go.Proofs.YtbdajagcinfeeaaDoor.M

namespace Go.Proofs.YtbdajagcinfeeaaDoor.M
open Go
noncomputable section
set_option maxRecDepth 100000
set_option maxHeartbeats 0
noncomputable def ref03_Bits_T : Tbl := []
noncomputable def ref03_Bits_C : CfgW := mkC Tryd.prog theG ref03_Bits_T 29 0 false
def ref03_Bits_lv : Nat → List Nat := fun i => bif Nat.beq i 2 then [1, 2, 3, 4, 5, 6] else bif Nat.beq i 0 then [1, 2, 3, 4] else []
noncomputable abbrev ref03_Bits_b : Code := Tryd.f85.body.getD .skip
noncomputable abbrev ref03_Bits_r : List ResultVar := Tryd.f85.results.toList
def ref03_Bits_hs : List Nat := []

def ref03_Bits_enc (r : Vector Bool 256) : CallOut := ⟨.pv (.arr .b 256 r), [], true, []⟩
def ref03_Bits_s0 (i : Int) (a : Vector UInt64 4) (t2 : Vector Bool 256) (l : Vector Bool 256) : St := ⟨[(1, .p 60000 []), (2, .p 60001 []), (3, .p 60002 []), (4, .pv (.sc .i i))], [(60000, .box (.pv (.arr .u64 4 a))), (60001, .box (.pv (.arr .b 256 t2))), (60002, .box (.pv (.arr .b 256 l)))]⟩
def ref03_Bits_s2 (i : Int) (n : UInt64) (k_ : Int) (a : Vector UInt64 4) (t2 : Vector Bool 256) (l : Vector Bool 256) : St := ⟨[(1, .p 60000 []), (2, .p 60001 []), (3, .p 60002 []), (4, .pv (.sc .i i)), (5, .pv (.sc .u64 n)), (6, .pv (.sc .i k_))], [(60000, .box (.pv (.arr .u64 4 a))), (60001, .box (.pv (.arr .b 256 t2))), (60002, .box (.pv (.arr .b 256 l)))]⟩
theorem ref03_Bits_g0 (i : Int) (a : Vector UInt64 4) (t2 : Vector Bool 256) (l : Vector Bool 256) (Q : CallOut → Prop) : headRound ref03_Bits_C ref03_Bits_lv [true, true, false, true, false] ref03_Bits_b (ref03_Bits_s0 i a t2 l) (fnK ref03_Bits_C ref03_Bits_r ref03_Bits_hs Q) =
    (condP (decide (i < (256 : Int))) (((64 : Int) ≠ (0 : Int)) ∧ ((((0 : Int) ≤ (w64 (Int.tdiv i (64 : Int)))) ∧ ((w64 (Int.tdiv i (64 : Int))) < (4 : Int))) ∧ (headP ref03_Bits_C ref03_Bits_lv [true, true, false, true, false, false, true, false, false, true, false, true, false] ref03_Bits_b (ref03_Bits_s2 i (List.getD (Vector.toList a) (Int.toNat (w64 (Int.tdiv i (64 : Int)))) (0 : UInt64)) (0 : Int) a t2 l) (fnK ref03_Bits_C ref03_Bits_r ref03_Bits_hs Q)))) (Q (ref03_Bits_enc l))) := by kernel_rfl
theorem ref03_Bits_g2 (i : Int) (n : UInt64) (k_ : Int) (a : Vector UInt64 4) (t2 : Vector Bool 256) (l : Vector Bool 256) (Q : CallOut → Prop) : headRound ref03_Bits_C ref03_Bits_lv [true, true, false, true, false, false, true, false, false, true, false, true, false] ref03_Bits_b (ref03_Bits_s2 i n k_ a t2 l) (fnK ref03_Bits_C ref03_Bits_r ref03_Bits_hs Q) =
    (((64 : Int) ≠ (0 : Int)) ∧ (condP (decide (k_ < (Int.tmod i (64 : Int)))) (((2 : UInt64) ≠ (0 : UInt64)) ∧ (headP ref03_Bits_C ref03_Bits_lv [true, true, false, true, false, false, true, false, false, true, false, true, false] ref03_Bits_b (ref03_Bits_s2 i (n / (2 : UInt64)) (w64 (k_ + (1 : Int))) a t2 l) (fnK ref03_Bits_C ref03_Bits_r ref03_Bits_hs Q))) (((2 : UInt64) ≠ (0 : UInt64)) ∧ ((((0 : Int) ≤ i) ∧ (i < (256 : Int))) ∧ (headP ref03_Bits_C ref03_Bits_lv [true, true, false, true, false] ref03_Bits_b (ref03_Bits_s0 (w64 (i + (1 : Int))) a t2 (Vector.setIfInBounds l (Int.toNat i) (decide ((n % (2 : UInt64)) = (1 : UInt64))))) (fnK ref03_Bits_C ref03_Bits_r ref03_Bits_hs Q)))))) := by kernel_rfl
theorem ref03_Bits_k0 {r : Vector Bool 256} {Q : CallOut → Prop} (hQ : Q (ref03_Bits_enc r)) : ∀ k : Nat, (∀ (i : Int) (a : Vector UInt64 4) (t2 : Vector Bool 256) (l : Vector Bool 256), ref03_Bits_h0 k i a t2 l = some r → headP ref03_Bits_C ref03_Bits_lv [true, true, false, true, false] ref03_Bits_b (ref03_Bits_s0 i a t2 l) (fnK ref03_Bits_C ref03_Bits_r ref03_Bits_hs Q)) ∧ (∀ (i : Int) (n : UInt64) (k_ : Int) (a : Vector UInt64 4) (t2 : Vector Bool 256) (l : Vector Bool 256), ref03_Bits_h2 k i n k_ a t2 l = some r → headP ref03_Bits_C ref03_Bits_lv [true, true, false, true, false, false, true, false, false, true, false, true, false] ref03_Bits_b (ref03_Bits_s2 i n k_ a t2 l) (fnK ref03_Bits_C ref03_Bits_r ref03_Bits_hs Q))
  | 0 => ⟨fun _ _ _ _ h => no_ok h, fun _ _ _ _ _ _ h => no_ok h⟩
  | k + 1 => ⟨fun i a t2 l h => headP_step (Eq.mpr (ref03_Bits_g0 i a t2 l Q) (have h := (ref03_Bits_h0_q k i a t2 l).symm.trans h; cond_ok h (fun h => ⟨by decide +kernel, ite_ok h fun hc0 h => (ref03_Bits_k0 hQ k).2 _ _ _ _ _ _ h⟩) (fun h => ret_ok (Q := Q) (e := ref03_Bits_enc) h hQ))),
    fun i n k_ a t2 l h => headP_step (Eq.mpr (ref03_Bits_g2 i n k_ a t2 l Q) (have h := (ref03_Bits_h2_q k i n k_ a t2 l).symm.trans h; ⟨by decide +kernel, cond_ok h (fun h => ⟨by decide +kernel, (ref03_Bits_k0 hQ k).2 _ _ _ _ _ _ h⟩) (fun h => ⟨by decide +kernel, ite_ok h fun hc0 h => (ref03_Bits_k0 hQ k).1 _ _ _ _ h⟩)⟩))⟩
theorem ref03_Bits_e (a : Vector UInt64 4) (Q : CallOut → Prop) : evalFnP ref03_Bits_C ref03_Bits_lv ref03_Bits_r ref03_Bits_hs ref03_Bits_b [.pv (.arr .u64 4 a)] [] Q =
    (headP ref03_Bits_C ref03_Bits_lv [true, true, false, true, false] ref03_Bits_b (ref03_Bits_s0 (0 : Int) a (Vector.replicate (256 : Nat) false) (Vector.replicate (256 : Nat) false)) (fnK ref03_Bits_C ref03_Bits_r ref03_Bits_hs Q)) := by kernel_rfl
theorem ref03_Bits_w {k : Nat} (a : Vector UInt64 4) {r} {Q : CallOut → Prop} (h : ref03_Bits k a = some r) (hQ : Q (ref03_Bits_enc r)) : evalFnP ref03_Bits_C ref03_Bits_lv ref03_Bits_r ref03_Bits_hs ref03_Bits_b [.pv (.arr .u64 4 a)] [] Q :=
  Eq.mpr (ref03_Bits_e a Q) (have h := (ref03_Bits_q k a).symm.trans h; (ref03_Bits_k0 hQ _).1 _ _ _ _ h)
def ref03_Bits_c : Ans
  | [.pv (.arr .u64 4 a)], [] => some (none, ref03_Bits_enc (bitsV (uV a)))
  | _, _ => none
theorem ref03_Bits_tok : TblOK Tryd.prog theG ref03_Bits_T := .nil
theorem ref03_Bits_ok : FnOK Tryd.prog theG 85 (unW ref03_Bits_c) := by
  refine FnOK.ofC (T := ref03_Bits_T) (nt := 29) (np := 0) (mv := []) (nf := false) (hs := ref03_Bits_hs) (fn := Tryd.f85) (body := ref03_Bits_b) ref03_Bits_tok (by kernel_rfl) (by kernel_rfl) (by kernel_rfl) (by kernel_rfl) (c := ref03_Bits_c) (lv := ref03_Bits_lv) ?_
  intro xs mem p out h hp
  unfold ref03_Bits_c at h
  split at h
  · cases h
    obtain ⟨k, hk⟩ := ref03_Bits_spec _
    exact ref03_Bits_w _ hk rfl
  · cases h
end
end Go.Proofs.YtbdajagcinfeeaaDoor.M

namespace Go.Proofs.YtbdajagcinfeeaaDoor.M
open Go
noncomputable section
set_option maxRecDepth 100000
set_option maxHeartbeats 0
noncomputable def ref03_Less_T : Tbl := [(85, [], ref03_Bits_c)]
noncomputable def ref03_Less_C : CfgW := mkC Tryd.prog theG ref03_Less_T 26 0 false
def ref03_Less_lv : Nat → List Nat := fun i => bif Nat.beq i 0 then [5, 6, 7] else []
noncomputable abbrev ref03_Less_b : Code := Tryd.f65.body.getD .skip
noncomputable abbrev ref03_Less_r : List ResultVar := Tryd.f65.results.toList
def ref03_Less_hs : List Nat := []

def ref03_Less_enc (r : Bool) : CallOut := ⟨.pv (.sc .b r), [], true, []⟩
def ref03_Less_s0 (i : Int) (x_ : Vector Bool 256) (y : Vector Bool 256) : St := ⟨[(5, .p 60000 []), (6, .p 60001 []), (7, .pv (.sc .i i))], [(60000, .box (.pv (.arr .b 256 x_))), (60001, .box (.pv (.arr .b 256 y)))]⟩
theorem ref03_Less_g0 (i : Int) (x_ : Vector Bool 256) (y : Vector Bool 256) (Q : CallOut → Prop) : headRound ref03_Less_C ref03_Less_lv [true, true, false, true, false] ref03_Less_b (ref03_Less_s0 i x_ y) (fnK ref03_Less_C ref03_Less_r ref03_Less_hs Q) =
    (condP (decide ((0 : Int) ≤ i)) ((((0 : Int) ≤ i) ∧ (i < (256 : Int))) ∧ ((((0 : Int) ≤ i) ∧ (i < (256 : Int))) ∧ (condP (!(decide ((List.getD (Vector.toList x_) (Int.toNat i) false) = (List.getD (Vector.toList y) (Int.toNat i) false)))) ((((0 : Int) ≤ i) ∧ (i < (256 : Int))) ∧ (Q (ref03_Less_enc (List.getD (Vector.toList y) (Int.toNat i) false)))) (headP ref03_Less_C ref03_Less_lv [true, true, false, true, false] ref03_Less_b (ref03_Less_s0 (w64 (i - (1 : Int))) x_ y) (fnK ref03_Less_C ref03_Less_r ref03_Less_hs Q))))) (Q (ref03_Less_enc false))) := by kernel_rfl
theorem ref03_Less_k0 {r : Bool} {Q : CallOut → Prop} (hQ : Q (ref03_Less_enc r)) : ∀ k : Nat, (∀ (i : Int) (x_ : Vector Bool 256) (y : Vector Bool 256), ref03_Less_h0 k i x_ y = some r → headP ref03_Less_C ref03_Less_lv [true, true, false, true, false] ref03_Less_b (ref03_Less_s0 i x_ y) (fnK ref03_Less_C ref03_Less_r ref03_Less_hs Q))
  | 0 => fun _ _ _ h => no_ok h
  | k + 1 => fun i x_ y h => headP_step (Eq.mpr (ref03_Less_g0 i x_ y Q) (have h := (ref03_Less_h0_q k i x_ y).symm.trans h; cond_ok h (fun h => ite_ok h fun hc0 h => ⟨hc0, cond_ok h (fun h => ⟨hc0, ret_ok (Q := Q) (e := ref03_Less_enc) h hQ⟩) (fun h => (ref03_Less_k0 hQ k) _ _ _ h)⟩) (fun h => ret_ok (Q := Q) (e := ref03_Less_enc) h hQ)))
theorem ref03_Less_e (a : Vector UInt64 4) (b : Vector UInt64 4) (Q : CallOut → Prop) : evalFnP ref03_Less_C ref03_Less_lv ref03_Less_r ref03_Less_hs ref03_Less_b [.pv (.arr .u64 4 a), .pv (.arr .u64 4 b)] [] Q =
    (headP ref03_Less_C ref03_Less_lv [true, true, false, true, false] ref03_Less_b (ref03_Less_s0 (255 : Int) (bitsV (uV a)) (bitsV (uV b))) (fnK ref03_Less_C ref03_Less_r ref03_Less_hs Q)) := by kernel_rfl
theorem ref03_Less_w {k : Nat} (a : Vector UInt64 4) (b : Vector UInt64 4) {r} {Q : CallOut → Prop} (h : ref03_Less k a b = some r) (hQ : Q (ref03_Less_enc r)) : evalFnP ref03_Less_C ref03_Less_lv ref03_Less_r ref03_Less_hs ref03_Less_b [.pv (.arr .u64 4 a), .pv (.arr .u64 4 b)] [] Q :=
  Eq.mpr (ref03_Less_e a b Q) (have h := (ref03_Less_q k a b).symm.trans h; (ref03_Less_k0 hQ _) _ _ _ h)
def ref03_Less_c : Ans
  | [.pv (.arr .u64 4 a), .pv (.arr .u64 4 b)], [] => some (none, ref03_Less_enc (subB a b))
  | _, _ => none
theorem ref03_Less_tok : TblOK Tryd.prog theG ref03_Less_T := .cons ⟨by kernel_rfl, ref03_Bits_ok⟩ (.nil)
theorem ref03_Less_ok : FnOK Tryd.prog theG 65 (unW ref03_Less_c) := by
  refine FnOK.ofC (T := ref03_Less_T) (nt := 26) (np := 0) (mv := []) (nf := false) (hs := ref03_Less_hs) (fn := Tryd.f65) (body := ref03_Less_b) ref03_Less_tok (by kernel_rfl) (by kernel_rfl) (by kernel_rfl) (by kernel_rfl) (c := ref03_Less_c) (lv := ref03_Less_lv) ?_
  intro xs mem p out h hp
  unfold ref03_Less_c at h
  split at h
  · cases h
    obtain ⟨k, hk⟩ := ref03_Less_spec _ _
    exact ref03_Less_w _ _ hk rfl
  · cases h
end
end Go.Proofs.YtbdajagcinfeeaaDoor.M
