/- Part of the proofs: what functions of the program do: plain functions, and the walks that show it. No condition. -/
import Derived.KernelRfl
import Derived.Test.YtepcjobghbanmaaProg
import Derived.Test.YtepcjobghbanmaaLd
import Derived.Test.YtepcjobghbanmaaSwords
import Derived.Test.YtepcjobghbanmaaSbigS
import Derived.Test.YtepcjobghbanmaaSbigB
import Derived.Test.YtepcjobghbanmaaFbits
import Derived.Test.YtepcjobghbanmaaScellS
set_option linter.unusedVariables false
set_option linter.unusedSimpArgs false
set_option autoImplicit false
namespace Go.Proofs.Ytepcjobghbanmaa.M
open Go
noncomputable section
/-- moneyer/big.Of -/
def big_Of (n : UInt64) : Vector UInt64 4 :=
  (Vector.setIfInBounds (Vector.replicate (4 : Nat) (0 : UInt64)) (0 : Nat) n)
theorem big_Of_q (n : UInt64) : big_Of n = ((Vector.setIfInBounds (Vector.replicate (4 : Nat) (0 : UInt64)) (0 : Nat) n)) := by kernel_rfl
theorem big_Of_spec (n : UInt64) : big_Of n = uW n.toNat := by
  have hn := n.toNat_lt
  refine w_ext fun q hq => ?_
  rw [uW_get _ _ hq]
  unfold big_Of gW
  rw [vget_set _ _ _ _ _ (by omega), vget_rep]
  have : q = 0 ∨ q = 1 ∨ q = 2 ∨ q = 3 := by omega
  rcases this with h | h | h | h <;> subst h <;> simp <;> omega

end
end Go.Proofs.Ytepcjobghbanmaa.M

namespace Go.Proofs.Ytepcjobghbanmaa.M
open Go
noncomputable section
/-- the loop 1 of moneyer/big.Right -/
def big_Right_h1 : Nat → Int → Int → (Vector UInt64 4) → (Vector UInt64 4) → (Vector UInt64 4) → Option (Vector UInt64 4)
  | 0, _, _, _, _, _ => none
  | k + 1, n, i, a, t4, x_ => bif decide ((w64 (i + (w64 (Int.tdiv n (64 : Int))))) < (4 : Int)) then (if ((0 : Int) ≤ (w64 (i + (w64 (Int.tdiv n (64 : Int)))))) ∧ ((w64 (i + (w64 (Int.tdiv n (64 : Int))))) < (4 : Int)) then
        if ((0 : Int) ≤ i) ∧ (i < (4 : Int)) then
          bif eqb (decide ((w64 ((w64 (i + (w64 (Int.tdiv n (64 : Int))))) + (1 : Int))) < (4 : Int))) true then (bif bif true then (!(decide ((Int.tmod n (64 : Int)) = (0 : Int)))) else false then (if ((0 : Int) ≤ (w64 ((w64 (i + (w64 (Int.tdiv n (64 : Int))))) + (1 : Int)))) ∧ ((w64 ((w64 (i + (w64 (Int.tdiv n (64 : Int))))) + (1 : Int))) < (4 : Int)) then
                big_Right_h1 k n (w64 (i + (1 : Int))) a t4 (Vector.setIfInBounds (Vector.setIfInBounds x_ (Int.toNat i) (shr_u64 (List.getD (Vector.toList a) (Int.toNat (w64 (i + (w64 (Int.tdiv n (64 : Int)))))) (0 : UInt64)) (UInt64.toNat ((UInt64.ofInt n) % (64 : UInt64))))) (Int.toNat i) ((List.getD (Vector.toList (Vector.setIfInBounds x_ (Int.toNat i) (shr_u64 (List.getD (Vector.toList a) (Int.toNat (w64 (i + (w64 (Int.tdiv n (64 : Int)))))) (0 : UInt64)) (UInt64.toNat ((UInt64.ofInt n) % (64 : UInt64)))))) (Int.toNat i) (0 : UInt64)) ||| (shl_u64 (List.getD (Vector.toList a) (Int.toNat (w64 ((w64 (i + (w64 (Int.tdiv n (64 : Int))))) + (1 : Int)))) (0 : UInt64)) (UInt64.toNat ((64 : UInt64) - ((UInt64.ofInt n) % (64 : UInt64)))))))
              else none)
              else (big_Right_h1 k n (w64 (i + (1 : Int))) a t4 (Vector.setIfInBounds x_ (Int.toNat i) (shr_u64 (List.getD (Vector.toList a) (Int.toNat (w64 (i + (w64 (Int.tdiv n (64 : Int)))))) (0 : UInt64)) (UInt64.toNat ((UInt64.ofInt n) % (64 : UInt64)))))))
            else (big_Right_h1 k n (w64 (i + (1 : Int))) a t4 (Vector.setIfInBounds x_ (Int.toNat i) (shr_u64 (List.getD (Vector.toList a) (Int.toNat (w64 (i + (w64 (Int.tdiv n (64 : Int)))))) (0 : UInt64)) (UInt64.toNat ((UInt64.ofInt n) % (64 : UInt64))))))
        else none
      else none)
      else (some x_)
theorem big_Right_h1_q (k : Nat) (n : Int) (i : Int) (a : Vector UInt64 4) (t4 : Vector UInt64 4) (x_ : Vector UInt64 4) : big_Right_h1 (k + 1) n i a t4 x_ =
  (bif decide ((w64 (i + (w64 (Int.tdiv n (64 : Int))))) < (4 : Int)) then (if ((0 : Int) ≤ (w64 (i + (w64 (Int.tdiv n (64 : Int)))))) ∧ ((w64 (i + (w64 (Int.tdiv n (64 : Int))))) < (4 : Int)) then
        if ((0 : Int) ≤ i) ∧ (i < (4 : Int)) then
          bif eqb (decide ((w64 ((w64 (i + (w64 (Int.tdiv n (64 : Int))))) + (1 : Int))) < (4 : Int))) true then (bif bif true then (!(decide ((Int.tmod n (64 : Int)) = (0 : Int)))) else false then (if ((0 : Int) ≤ (w64 ((w64 (i + (w64 (Int.tdiv n (64 : Int))))) + (1 : Int)))) ∧ ((w64 ((w64 (i + (w64 (Int.tdiv n (64 : Int))))) + (1 : Int))) < (4 : Int)) then
                big_Right_h1 k n (w64 (i + (1 : Int))) a t4 (Vector.setIfInBounds (Vector.setIfInBounds x_ (Int.toNat i) (shr_u64 (List.getD (Vector.toList a) (Int.toNat (w64 (i + (w64 (Int.tdiv n (64 : Int)))))) (0 : UInt64)) (UInt64.toNat ((UInt64.ofInt n) % (64 : UInt64))))) (Int.toNat i) ((List.getD (Vector.toList (Vector.setIfInBounds x_ (Int.toNat i) (shr_u64 (List.getD (Vector.toList a) (Int.toNat (w64 (i + (w64 (Int.tdiv n (64 : Int)))))) (0 : UInt64)) (UInt64.toNat ((UInt64.ofInt n) % (64 : UInt64)))))) (Int.toNat i) (0 : UInt64)) ||| (shl_u64 (List.getD (Vector.toList a) (Int.toNat (w64 ((w64 (i + (w64 (Int.tdiv n (64 : Int))))) + (1 : Int)))) (0 : UInt64)) (UInt64.toNat ((64 : UInt64) - ((UInt64.ofInt n) % (64 : UInt64)))))))
              else none)
              else (big_Right_h1 k n (w64 (i + (1 : Int))) a t4 (Vector.setIfInBounds x_ (Int.toNat i) (shr_u64 (List.getD (Vector.toList a) (Int.toNat (w64 (i + (w64 (Int.tdiv n (64 : Int)))))) (0 : UInt64)) (UInt64.toNat ((UInt64.ofInt n) % (64 : UInt64)))))))
            else (big_Right_h1 k n (w64 (i + (1 : Int))) a t4 (Vector.setIfInBounds x_ (Int.toNat i) (shr_u64 (List.getD (Vector.toList a) (Int.toNat (w64 (i + (w64 (Int.tdiv n (64 : Int)))))) (0 : UInt64)) (UInt64.toNat ((UInt64.ofInt n) % (64 : UInt64))))))
        else none
      else none)
      else (some x_)) := by kernel_rfl
/-- moneyer/big.Right -/
def big_Right (k : Nat) (a : Vector UInt64 4) (n : Int) : Option (Vector UInt64 4) :=
  bif decide (n ≤ (0 : Int)) then (some a)
    else (bif decide ((256 : Int) ≤ n) then (some (Vector.replicate (4 : Nat) (0 : UInt64)))
      else (big_Right_h1 k n (0 : Int) a (Vector.replicate (4 : Nat) (0 : UInt64)) (Vector.replicate (4 : Nat) (0 : UInt64))))
theorem big_Right_q (k : Nat) (a : Vector UInt64 4) (n : Int) : big_Right k a n = (bif decide (n ≤ (0 : Int)) then (some a)
    else (bif decide ((256 : Int) ≤ n) then (some (Vector.replicate (4 : Nat) (0 : UInt64)))
      else (big_Right_h1 k n (0 : Int) a (Vector.replicate (4 : Nat) (0 : UInt64)) (Vector.replicate (4 : Nat) (0 : UInt64))))) := by kernel_rfl
theorem big_Right_spec (a : Vector UInt64 4) (n : Int) (h : -9223372036854775808 ≤ n ∧ n < 9223372036854775808) : ∃ k, big_Right k a n = some (uW (uV a / 2 ^ n.toNat)) := by
  show Ev (fun k => big_Right k a n) _
  refine Ev.same (fun k => big_Right_q k a n) ?_
  by_cases c0 : n ≤ 0
  · refine Ev.done0 fun k => ?_
    rw [bif_pos c0, show n.toNat = 0 by omega, Nat.pow_zero, Nat.div_one, uW_uV]
  by_cases c1 : 256 ≤ n
  · refine Ev.done0 fun k => ?_
    rw [bif_neg c0, bif_pos c1]
    refine congrArg some (u_bit_ext fun i hi => ?_)
    rw [uV_rep, uW_bit, Nat.testBit_div_two_pow, uV_high _ _ (by omega), Bool.and_false, Nat.zero_testBit]
  obtain ⟨N, rfl⟩ : ∃ N : Nat, n = (N : Int) := ⟨n.toNat, by omega⟩
  have hN : N < 256 := by omega
  refine Ev.same (fun k => by rw [bif_neg c0, bif_neg c1]) ?_
  rw [Int.toNat_natCast]
  have := Ev.inv (H := fun k i x => big_Right_h1 k (N : Int) i a (Vector.replicate 4 0) x) (n := 4 - N / 64) (r := uW (uV a / 2 ^ N))
    (fun i x => ∀ j t, j < 4 → t < 64 → (gW x j).testBit t = (decide (j < i) && (uV a / 2 ^ N).testBit (64 * j + t))) ?_ ?_ (4 - N / 64) 0 (Vector.replicate 4 0) (by omega) ?_
  · exact this
  · intro i x hi hv next
    have ed : Int.tdiv ((N : Nat) : Int) 64 = ((N / 64 : Nat) : Int) := rfl
    have em : Int.tmod ((N : Nat) : Int) 64 = ((N % 64 : Nat) : Int) := rfl
    have hk : w64 ((i : Int) + ((N / 64 : Nat) : Int)) = ((i + N / 64 : Nat) : Int) := by rw [w64_id (by omega) (by omega)]; omega
    have hk2 : w64 (((i + N / 64 : Nat) : Int) + 1) = ((i + N / 64 + 1 : Nat) : Int) := by rw [w64_id (by omega) (by omega)]; omega
    have hi4 : i + N / 64 < 4 := by omega
    have fin : ∀ w : UInt64, (∀ t, t < 64 → w.toNat.testBit t = ((gW a (i + N / 64)).testBit (t + N % 64) || (decide (i + N / 64 + 1 < 4 ∧ N % 64 ≠ 0) && (decide (64 - N % 64 ≤ t) && (gW a (i + N / 64 + 1)).testBit (t - (64 - N % 64)))))) →
        ∀ j t, j < 4 → t < 64 → (gW (Vector.setIfInBounds x i w) j).testBit t = (decide (j < i + 1) && (uV a / 2 ^ N).testBit (64 * j + t)) := by
      intro w hw j t hj ht
      rw [gW_set _ _ _ _ (by omega)]
      by_cases e : i = j
      · subst e
        rw [if_pos rfl, hw t ht, decide_eq_true (p := i < i + 1) (by omega), Bool.true_and, right_word a N i hN hi4 t ht]
      · rw [if_neg e, hv j t hj ht]
        congr 1
        rw [decide_eq_decide]; omega
    by_cases c2 : i + N / 64 + 1 < 4 ∧ N % 64 ≠ 0
    · refine Ev.step (fun k => ?_) (next (Vector.setIfInBounds x i (shr_u64 (List.getD (Vector.toList a) (i + N / 64) 0) (N % 64) ||| shl_u64 (List.getD (Vector.toList a) (i + N / 64 + 1) 0) (64 - N % 64))) (fin _ ?_))
      · rw [big_Right_h1_q, ed, w64_nat (a := N / 64) (by omega), hk, hk2, bif_pos (by omega), if_pos (by omega), if_pos (by omega), decide_eq_true (p := ((i + N / 64 + 1 : Nat) : Int) < 4) (by omega), em, decide_eq_false (p := ((N % 64 : Nat) : Int) = 0) (by omega)]
        simp only [eqb, cond_true, Bool.not_false]
        rw [if_pos (by omega), amount N hN, amount2 N hN, set_set, Int.toNat_natCast, vget_set_eq _ _ _ (by omega), Int.toNat_natCast, Int.toNat_natCast, w64_id (by omega) (by omega)]
      · intro t ht
        rw [or_bit, shl_bit _ _ _ (by omega), shr_bit _ _ _ (by omega), decide_eq_true ht, Bool.true_and, gW_def, gW_def, decide_eq_true c2, Bool.true_and]
    · refine Ev.step (fun k => ?_) (next (Vector.setIfInBounds x i (shr_u64 (List.getD (Vector.toList a) (i + N / 64) 0) (N % 64))) (fin _ ?_))
      · rw [big_Right_h1_q, ed, w64_nat (a := N / 64) (by omega), hk, hk2, bif_pos (by omega), if_pos (by omega), if_pos (by omega), em]
        by_cases c3 : i + N / 64 + 1 < 4
        · rw [decide_eq_true (p := ((i + N / 64 + 1 : Nat) : Int) < 4) (by omega), decide_eq_true (p := ((N % 64 : Nat) : Int) = 0) (by omega)]
          simp only [eqb, cond_true, Bool.not_true, cond_false]
          rw [amount N hN, Int.toNat_natCast, Int.toNat_natCast, w64_id (by omega) (by omega)]
        · rw [decide_eq_false (p := ((i + N / 64 + 1 : Nat) : Int) < 4) (by omega)]
          simp only [eqb, cond_false]
          rw [amount N hN, Int.toNat_natCast, Int.toNat_natCast, w64_id (by omega) (by omega)]
      · intro t ht
        rw [shr_bit _ _ _ (by omega), gW_def, decide_eq_false c2, Bool.false_and, Bool.or_false]
  · intro x hv
    refine Ev.done fun k => ?_
    show big_Right_h1 (k + 1) _ _ _ _ _ = _
    rw [big_Right_h1_q, show Int.tdiv ((N : Nat) : Int) 64 = ((N / 64 : Nat) : Int) from rfl, w64_nat (a := N / 64) (by omega), w64_id (by omega) (by omega), bif_neg (by omega)]
    refine congrArg some (vecI fun j t hj ht => ?_)
    rw [hv j t hj ht, Nat.testBit_div_two_pow]
    by_cases c : j < 4 - N / 64
    · rw [decide_eq_true (by omega), Bool.true_and]
    · rw [decide_eq_false (by omega), uV_high _ _ (by omega), Bool.false_and]
  · intro j t hj ht
    rw [gW_rep, decide_eq_false (by omega), Bool.false_and, Nat.zero_testBit]

end
end Go.Proofs.Ytepcjobghbanmaa.M

namespace Go.Proofs.Ytepcjobghbanmaa.M
open Go
noncomputable section
/-- the loop 0 of moneyer/big.Len -/
def big_Len_h0 : Nat → Int → (Vector UInt64 4) → Option (Int)
  | 0, _, _ => none
  | k + 1, i, a => bif decide ((0 : Int) ≤ i) then (if ((0 : Int) ≤ i) ∧ (i < (4 : Int)) then
        bif !(decide ((List.getD (Vector.toList a) (Int.toNat i) (0 : UInt64)) = (0 : UInt64))) then (some (w64 ((w64 (i * (64 : Int))) + (((lenN (UInt64.toNat (List.getD (Vector.toList a) (Int.toNat i) (0 : UInt64)))) : Nat) : Int))))
          else (big_Len_h0 k (w64 (i - (1 : Int))) a)
      else none)
      else (some (0 : Int))
theorem big_Len_h0_q (k : Nat) (i : Int) (a : Vector UInt64 4) : big_Len_h0 (k + 1) i a =
  (bif decide ((0 : Int) ≤ i) then (if ((0 : Int) ≤ i) ∧ (i < (4 : Int)) then
        bif !(decide ((List.getD (Vector.toList a) (Int.toNat i) (0 : UInt64)) = (0 : UInt64))) then (some (w64 ((w64 (i * (64 : Int))) + (((lenN (UInt64.toNat (List.getD (Vector.toList a) (Int.toNat i) (0 : UInt64)))) : Nat) : Int))))
          else (big_Len_h0 k (w64 (i - (1 : Int))) a)
      else none)
      else (some (0 : Int))) := by kernel_rfl
/-- moneyer/big.Len -/
def big_Len (k : Nat) (a : Vector UInt64 4) : Option (Int) :=
  big_Len_h0 k (3 : Int) a
theorem big_Len_q (k : Nat) (a : Vector UInt64 4) : big_Len k a = (big_Len_h0 k (3 : Int) a) := by kernel_rfl
theorem uV_div (a : Vector UInt64 4) (i : Nat) (hi : i < 4) (h : ∀ j, j < 4 → i < j → gW a j = 0) : uV a / 2 ^ (64 * i) = gW a i := by
  have h0 := gW_lt a 0
  have h1 := gW_lt a 1
  have h2 := gW_lt a 2
  have h3 := gW_lt a 3
  have : i = 0 ∨ i = 1 ∨ i = 2 ∨ i = 3 := by omega
  unfold uV
  rcases this with e | e | e | e <;> subst e
  · have a1 := h 1 (by omega) (by omega)
    have a2 := h 2 (by omega) (by omega)
    have a3 := h 3 (by omega) (by omega)
    show _ / 1 = _
    omega
  · have a2 := h 2 (by omega) (by omega)
    have a3 := h 3 (by omega) (by omega)
    show _ / 18446744073709551616 = _
    omega
  · have a3 := h 3 (by omega) (by omega)
    show _ / 340282366920938463463374607431768211456 = _
    omega
  · show _ / 6277101735386680763835789423207666416102355444464034512896 = _
    omega
theorem big_Len_spec (a : Vector UInt64 4) : ∃ k, big_Len k a = some (((lenN (uV a) : Nat) : Int)) := by
  show Ev (fun k => big_Len k a) _
  refine Ev.same (fun k => big_Len_q k a) ?_
  refine Ev.dwn (H := fun k i (_ : Unit) => big_Len_h0 k i a) (n := 4) (fun i _ => ∀ j, j < 4 → i ≤ j → gW a j = 0) ?_ ?_ 4 () (Nat.le_refl _) (fun j h1 h2 => by omega)
  · intro i _ hi hv next
    by_cases c : List.getD (Vector.toList a) i 0 = 0
    · refine Ev.step (fun k => ?_) (next () ?_)
      · rw [big_Len_h0_q, bif_pos (by omega), if_pos (by omega), Int.toNat_natCast, decide_eq_true c, Bool.not_true, cond_false, w64_id (by omega) (by omega)]
      · intro j h1 h2
        by_cases e : i = j
        · subst e; rw [← gW_def, c]; rfl
        · exact hv j h1 (by omega)
    · refine Ev.done fun k => ?_
      rw [big_Len_h0_q, bif_pos (by omega), if_pos (by omega), Int.toNat_natCast, decide_eq_false c, Bool.not_false, cond_true, gW_def]
      have hd := uV_div a i hi (fun j h1 h2 => hv j h1 (by omega))
      have hne : gW a i ≠ 0 := by
        intro e
        exact c (UInt64.toNat_inj.1 e)
      have hs := lenN_shift (n := uV a) (64 * i) (by rw [hd]; exact hne)
      rw [hd] at hs
      have hl : lenN (gW a i) ≤ 64 := lenN_le.2 (gW_lt a i)
      rw [hs, w64_id (x := (i : Int) * 64) (by omega) (by omega), w64_id (by omega) (by omega)]
      refine congrArg some ?_
      omega
  · intro _ hv
    refine Ev.done fun k => ?_
    rw [big_Len_h0_q, bif_neg (by omega)]
    have : uV a = 0 := by
      unfold uV
      rw [hv 0 (by omega) (by omega), hv 1 (by omega) (by omega), hv 2 (by omega) (by omega), hv 3 (by omega) (by omega)]
    rw [this, lenN_zero]
    rfl

end
end Go.Proofs.Ytepcjobghbanmaa.M

namespace Go.Proofs.Ytepcjobghbanmaa.M
open Go
noncomputable section
/-- the loop 1 of moneyer/big.Left -/
def big_Left_h1 : Nat → Int → Int → (Vector UInt64 4) → (Vector UInt64 4) → (Vector UInt64 4) → Option (Vector UInt64 4)
  | 0, _, _, _, _, _ => none
  | k + 1, n, i, a, t4, x_ => bif decide ((w64 (Int.tdiv n (64 : Int))) ≤ i) then (if ((0 : Int) ≤ (w64 (i - (w64 (Int.tdiv n (64 : Int)))))) ∧ ((w64 (i - (w64 (Int.tdiv n (64 : Int))))) < (4 : Int)) then
        if ((0 : Int) ≤ i) ∧ (i < (4 : Int)) then
          bif eqb (decide ((0 : Int) < (w64 (i - (w64 (Int.tdiv n (64 : Int))))))) true then (bif bif true then (!(decide ((Int.tmod n (64 : Int)) = (0 : Int)))) else false then (if ((0 : Int) ≤ (w64 ((w64 (i - (w64 (Int.tdiv n (64 : Int))))) - (1 : Int)))) ∧ ((w64 ((w64 (i - (w64 (Int.tdiv n (64 : Int))))) - (1 : Int))) < (4 : Int)) then
                big_Left_h1 k n (w64 (i - (1 : Int))) a t4 (Vector.setIfInBounds (Vector.setIfInBounds x_ (Int.toNat i) (shl_u64 (List.getD (Vector.toList a) (Int.toNat (w64 (i - (w64 (Int.tdiv n (64 : Int)))))) (0 : UInt64)) (UInt64.toNat ((UInt64.ofInt n) % (64 : UInt64))))) (Int.toNat i) ((List.getD (Vector.toList (Vector.setIfInBounds x_ (Int.toNat i) (shl_u64 (List.getD (Vector.toList a) (Int.toNat (w64 (i - (w64 (Int.tdiv n (64 : Int)))))) (0 : UInt64)) (UInt64.toNat ((UInt64.ofInt n) % (64 : UInt64)))))) (Int.toNat i) (0 : UInt64)) ||| (shr_u64 (List.getD (Vector.toList a) (Int.toNat (w64 ((w64 (i - (w64 (Int.tdiv n (64 : Int))))) - (1 : Int)))) (0 : UInt64)) (UInt64.toNat ((64 : UInt64) - ((UInt64.ofInt n) % (64 : UInt64)))))))
              else none)
              else (big_Left_h1 k n (w64 (i - (1 : Int))) a t4 (Vector.setIfInBounds x_ (Int.toNat i) (shl_u64 (List.getD (Vector.toList a) (Int.toNat (w64 (i - (w64 (Int.tdiv n (64 : Int)))))) (0 : UInt64)) (UInt64.toNat ((UInt64.ofInt n) % (64 : UInt64)))))))
            else (big_Left_h1 k n (w64 (i - (1 : Int))) a t4 (Vector.setIfInBounds x_ (Int.toNat i) (shl_u64 (List.getD (Vector.toList a) (Int.toNat (w64 (i - (w64 (Int.tdiv n (64 : Int)))))) (0 : UInt64)) (UInt64.toNat ((UInt64.ofInt n) % (64 : UInt64))))))
        else none
      else none)
      else (some x_)
theorem big_Left_h1_q (k : Nat) (n : Int) (i : Int) (a : Vector UInt64 4) (t4 : Vector UInt64 4) (x_ : Vector UInt64 4) : big_Left_h1 (k + 1) n i a t4 x_ =
  (bif decide ((w64 (Int.tdiv n (64 : Int))) ≤ i) then (if ((0 : Int) ≤ (w64 (i - (w64 (Int.tdiv n (64 : Int)))))) ∧ ((w64 (i - (w64 (Int.tdiv n (64 : Int))))) < (4 : Int)) then
        if ((0 : Int) ≤ i) ∧ (i < (4 : Int)) then
          bif eqb (decide ((0 : Int) < (w64 (i - (w64 (Int.tdiv n (64 : Int))))))) true then (bif bif true then (!(decide ((Int.tmod n (64 : Int)) = (0 : Int)))) else false then (if ((0 : Int) ≤ (w64 ((w64 (i - (w64 (Int.tdiv n (64 : Int))))) - (1 : Int)))) ∧ ((w64 ((w64 (i - (w64 (Int.tdiv n (64 : Int))))) - (1 : Int))) < (4 : Int)) then
                big_Left_h1 k n (w64 (i - (1 : Int))) a t4 (Vector.setIfInBounds (Vector.setIfInBounds x_ (Int.toNat i) (shl_u64 (List.getD (Vector.toList a) (Int.toNat (w64 (i - (w64 (Int.tdiv n (64 : Int)))))) (0 : UInt64)) (UInt64.toNat ((UInt64.ofInt n) % (64 : UInt64))))) (Int.toNat i) ((List.getD (Vector.toList (Vector.setIfInBounds x_ (Int.toNat i) (shl_u64 (List.getD (Vector.toList a) (Int.toNat (w64 (i - (w64 (Int.tdiv n (64 : Int)))))) (0 : UInt64)) (UInt64.toNat ((UInt64.ofInt n) % (64 : UInt64)))))) (Int.toNat i) (0 : UInt64)) ||| (shr_u64 (List.getD (Vector.toList a) (Int.toNat (w64 ((w64 (i - (w64 (Int.tdiv n (64 : Int))))) - (1 : Int)))) (0 : UInt64)) (UInt64.toNat ((64 : UInt64) - ((UInt64.ofInt n) % (64 : UInt64)))))))
              else none)
              else (big_Left_h1 k n (w64 (i - (1 : Int))) a t4 (Vector.setIfInBounds x_ (Int.toNat i) (shl_u64 (List.getD (Vector.toList a) (Int.toNat (w64 (i - (w64 (Int.tdiv n (64 : Int)))))) (0 : UInt64)) (UInt64.toNat ((UInt64.ofInt n) % (64 : UInt64)))))))
            else (big_Left_h1 k n (w64 (i - (1 : Int))) a t4 (Vector.setIfInBounds x_ (Int.toNat i) (shl_u64 (List.getD (Vector.toList a) (Int.toNat (w64 (i - (w64 (Int.tdiv n (64 : Int)))))) (0 : UInt64)) (UInt64.toNat ((UInt64.ofInt n) % (64 : UInt64))))))
        else none
      else none)
      else (some x_)) := by kernel_rfl
/-- moneyer/big.Left -/
def big_Left (k : Nat) (a : Vector UInt64 4) (n : Int) : Option (Vector UInt64 4) :=
  bif decide (n ≤ (0 : Int)) then (some a)
    else (bif decide ((256 : Int) ≤ n) then (some (Vector.replicate (4 : Nat) (0 : UInt64)))
      else (big_Left_h1 k n (3 : Int) a (Vector.replicate (4 : Nat) (0 : UInt64)) (Vector.replicate (4 : Nat) (0 : UInt64))))
theorem big_Left_q (k : Nat) (a : Vector UInt64 4) (n : Int) : big_Left k a n = (bif decide (n ≤ (0 : Int)) then (some a)
    else (bif decide ((256 : Int) ≤ n) then (some (Vector.replicate (4 : Nat) (0 : UInt64)))
      else (big_Left_h1 k n (3 : Int) a (Vector.replicate (4 : Nat) (0 : UInt64)) (Vector.replicate (4 : Nat) (0 : UInt64))))) := by kernel_rfl
theorem big_Left_spec (a : Vector UInt64 4) (n : Int) (h : -9223372036854775808 ≤ n ∧ n < 9223372036854775808) : ∃ k, big_Left k a n = some (uW (uV a * 2 ^ n.toNat)) := by
  show Ev (fun k => big_Left k a n) _
  refine Ev.same (fun k => big_Left_q k a n) ?_
  by_cases c0 : n ≤ 0
  · refine Ev.done0 fun k => ?_
    rw [bif_pos c0, show n.toNat = 0 by omega, Nat.pow_zero, Nat.mul_one, uW_uV]
  by_cases c1 : 256 ≤ n
  · refine Ev.done0 fun k => ?_
    rw [bif_neg c0, bif_pos c1]
    refine congrArg some (u_bit_ext fun i hi => ?_)
    rw [uV_rep, uW_bit, Nat.testBit_mul_two_pow, decide_eq_false (p := n.toNat ≤ i) (by omega), Bool.false_and, Bool.and_false, Nat.zero_testBit]
  obtain ⟨N, rfl⟩ : ∃ N : Nat, n = (N : Int) := ⟨n.toNat, by omega⟩
  have hN : N < 256 := by omega
  refine Ev.same (fun k => by rw [bif_neg c0, bif_neg c1]) ?_
  rw [Int.toNat_natCast]
  have := Ev.dwn (H := fun k i x => big_Left_h1 k (N : Int) (i + ((N / 64 : Nat) : Int)) a (Vector.replicate 4 0) x) (n := 4 - N / 64) (r := uW (uV a * 2 ^ N))
    (fun i x => ∀ j t, j < 4 → t < 64 → (gW x j).testBit t = (decide (i + N / 64 ≤ j) && (uV a * 2 ^ N).testBit (64 * j + t))) ?_ ?_ (4 - N / 64) (Vector.replicate 4 0) (Nat.le_refl _) ?_
  · rw [show ((4 - N / 64 : Nat) : Int) - 1 + ((N / 64 : Nat) : Int) = 3 by omega] at this
    exact this
  · intro i x hi hv next
    have ed : Int.tdiv ((N : Nat) : Int) 64 = ((N / 64 : Nat) : Int) := rfl
    have em : Int.tmod ((N : Nat) : Int) 64 = ((N % 64 : Nat) : Int) := rfl
    have hk : w64 (((i : Int) + ((N / 64 : Nat) : Int)) - ((N / 64 : Nat) : Int)) = (i : Int) := by rw [w64_id (by omega) (by omega)]; omega
    have hi4 : i + N / 64 < 4 := by omega
    have et : Int.toNat ((i : Int) + ((N / 64 : Nat) : Int)) = i + N / 64 := by omega
    have fin : ∀ w : UInt64, (∀ t, t < 64 → w.toNat.testBit t = ((decide (N % 64 ≤ t) && (gW a i).testBit (t - N % 64)) || (decide (0 < i ∧ N % 64 ≠ 0) && (gW a (i - 1)).testBit (t + (64 - N % 64))))) →
        ∀ j t, j < 4 → t < 64 → (gW (Vector.setIfInBounds x (i + N / 64) w) j).testBit t = (decide (i + N / 64 ≤ j) && (uV a * 2 ^ N).testBit (64 * j + t)) := by
      intro w hw j t hj ht
      rw [gW_set _ _ _ _ hi4]
      by_cases e : i + N / 64 = j
      · subst e
        have := left_word a N (i + N / 64) hN hj (by omega) t ht
        rw [show i + N / 64 - N / 64 = i by omega] at this
        rw [if_pos rfl, hw t ht, decide_eq_true (Nat.le_refl _), Bool.true_and, this]
      · rw [if_neg e, hv j t hj ht]
        congr 1
        rw [decide_eq_decide]; omega
    by_cases c2 : 0 < i ∧ N % 64 ≠ 0
    · refine Ev.step (fun k => ?_) (next (Vector.setIfInBounds x (i + N / 64) (shl_u64 (List.getD (Vector.toList a) i 0) (N % 64) ||| shr_u64 (List.getD (Vector.toList a) (i - 1) 0) (64 - N % 64))) (fin _ ?_))
      · rw [big_Left_h1_q, ed, w64_nat (a := N / 64) (by omega), bif_pos (by omega), hk, if_pos (by omega), if_pos (by omega), decide_eq_true (p := (0 : Int) < (i : Int)) (by omega), em, decide_eq_false (p := ((N % 64 : Nat) : Int) = 0) (by omega)]
        simp only [eqb, cond_true, Bool.not_false]
        rw [w64_id (x := (i : Int) - 1) (by omega) (by omega), if_pos (by omega), amount N hN, amount2 N hN, et, set_set, vget_set_eq _ _ _ (by omega), Int.toNat_natCast, show Int.toNat ((i : Int) - 1) = i - 1 by omega, w64_id (by omega) (by omega), show (i : Int) + ((N / 64 : Nat) : Int) - 1 = (i : Int) - 1 + ((N / 64 : Nat) : Int) by omega]
      · intro t ht
        rw [or_bit, shl_bit _ _ _ (by omega), shr_bit _ _ _ (by omega), decide_eq_true ht, Bool.true_and, gW_def, gW_def, decide_eq_true c2, Bool.true_and]
    · refine Ev.step (fun k => ?_) (next (Vector.setIfInBounds x (i + N / 64) (shl_u64 (List.getD (Vector.toList a) i 0) (N % 64))) (fin _ ?_))
      · rw [big_Left_h1_q, ed, w64_nat (a := N / 64) (by omega), bif_pos (by omega), hk, if_pos (by omega), if_pos (by omega), em]
        by_cases c3 : 0 < i
        · rw [decide_eq_true (p := (0 : Int) < (i : Int)) (by omega), decide_eq_true (p := ((N % 64 : Nat) : Int) = 0) (by omega)]
          simp only [eqb, cond_true, Bool.not_true, cond_false]
          rw [amount N hN, et, Int.toNat_natCast, w64_id (by omega) (by omega), show (i : Int) + ((N / 64 : Nat) : Int) - 1 = (i : Int) - 1 + ((N / 64 : Nat) : Int) by omega]
        · rw [decide_eq_false (p := (0 : Int) < (i : Int)) (by omega)]
          simp only [eqb, cond_false]
          rw [amount N hN, et, Int.toNat_natCast, w64_id (by omega) (by omega), show (i : Int) + ((N / 64 : Nat) : Int) - 1 = (i : Int) - 1 + ((N / 64 : Nat) : Int) by omega]
      · intro t ht
        rw [shl_bit _ _ _ (by omega), decide_eq_true ht, Bool.true_and, gW_def, decide_eq_false c2, Bool.false_and, Bool.or_false]
  · intro x hv
    refine Ev.done fun k => ?_
    show big_Left_h1 (k + 1) _ _ _ _ _ = _
    rw [big_Left_h1_q, show Int.tdiv ((N : Nat) : Int) 64 = ((N / 64 : Nat) : Int) from rfl, w64_nat (a := N / 64) (by omega), bif_neg (by omega)]
    refine congrArg some (vecI fun j t hj ht => ?_)
    rw [hv j t hj ht, Nat.testBit_mul_two_pow]
    by_cases c : N / 64 ≤ j
    · rw [decide_eq_true (by omega), Bool.true_and]
    · rw [decide_eq_false (by omega), decide_eq_false (by omega), Bool.false_and, Bool.false_and]
  · intro j t hj ht
    rw [gW_rep, decide_eq_false (by omega), Bool.false_and, Nat.zero_testBit]

end
end Go.Proofs.Ytepcjobghbanmaa.M

namespace Go.Proofs.Ytepcjobghbanmaa.M
open Go
noncomputable section
/-- the loop 0 of moneyer/big.Mul -/
def big_Mul_h0 : Nat → UInt64 → UInt64 → Int → (Vector UInt64 4) → (Vector UInt64 4) → Option (Vector UInt64 4 × UInt64)
  | 0, _, _, _, _, _ => none
  | k + 1, n, carry, t11, a, t4 => bif decide (t11 < (4 : Int)) then (if ((0 : Int) ≤ t11) ∧ (t11 < (4 : Int)) then
        big_Mul_h0 k n ((mulHi (List.getD (Vector.toList a) (Int.toNat t11) (0 : UInt64)) n) + (addHi (mulLo (List.getD (Vector.toList a) (Int.toNat t11) (0 : UInt64)) n) carry (0 : UInt64))) (w64 (t11 + (1 : Int))) (Vector.setIfInBounds a (Int.toNat t11) (((mulLo (List.getD (Vector.toList a) (Int.toNat t11) (0 : UInt64)) n) + carry) + (0 : UInt64))) t4
      else none)
      else (some (a, carry))
theorem big_Mul_h0_q (k : Nat) (n : UInt64) (carry : UInt64) (t11 : Int) (a : Vector UInt64 4) (t4 : Vector UInt64 4) : big_Mul_h0 (k + 1) n carry t11 a t4 =
  (bif decide (t11 < (4 : Int)) then (if ((0 : Int) ≤ t11) ∧ (t11 < (4 : Int)) then
        big_Mul_h0 k n ((mulHi (List.getD (Vector.toList a) (Int.toNat t11) (0 : UInt64)) n) + (addHi (mulLo (List.getD (Vector.toList a) (Int.toNat t11) (0 : UInt64)) n) carry (0 : UInt64))) (w64 (t11 + (1 : Int))) (Vector.setIfInBounds a (Int.toNat t11) (((mulLo (List.getD (Vector.toList a) (Int.toNat t11) (0 : UInt64)) n) + carry) + (0 : UInt64))) t4
      else none)
      else (some (a, carry))) := by kernel_rfl
/-- moneyer/big.Mul -/
def big_Mul (k : Nat) (a : Vector UInt64 4) (n : UInt64) : Option (Vector UInt64 4 × UInt64) :=
  big_Mul_h0 k n (0 : UInt64) (0 : Int) a (Vector.replicate (4 : Nat) (0 : UInt64))
theorem big_Mul_q (k : Nat) (a : Vector UInt64 4) (n : UInt64) : big_Mul k a n = (big_Mul_h0 k n (0 : UInt64) (0 : Int) a (Vector.replicate (4 : Nat) (0 : UInt64))) := by kernel_rfl
theorem mul_step {A n W p : Nat} (hp : 0 < p) (hW : 0 < W) : (A % (p * W)) * n / (p * W) = ((A % p) * n / p + A / p % W * n) / W ∧ A * n / p % W = ((A % p) * n / p + A / p % W * n) % W := by
  have e1 : A % (p * W) = A % p + p * (A / p % W) := Nat.mod_mul
  have e2 : (A % (p * W)) * n = p * (A / p % W * n) + (A % p) * n := by rw [e1]; grind
  have e3 : (A % (p * W)) * n / p = (A % p) * n / p + A / p % W * n := by rw [e2, Nat.mul_add_div hp, Nat.add_comm]
  constructor
  · rw [← Nat.div_div_eq_div_mul, e3]
  · have h := Nat.div_add_mod A (p * W)
    have e4 : A * n = p * (W * (A / (p * W) * n)) + (A % (p * W)) * n := by
      have : A * n = (p * W * (A / (p * W)) + A % (p * W)) * n := by rw [h]
      rw [this]; grind
    rw [e4, Nat.mul_add_div hp, e3, Nat.mul_add_mod]
theorem big_Mul_spec (a : Vector UInt64 4) (n : UInt64) : ∃ k, big_Mul k a n = some (uW (uV a * n.toNat), mulC a n) := by
  show Ev (fun k => big_Mul k a n) _
  refine Ev.same (fun k => big_Mul_q k a n) ?_
  have hnl := n.toNat_lt
  refine Ev.inv (H := fun k i (s : Vector UInt64 4 × UInt64) => big_Mul_h0 k n s.2 i s.1 (Vector.replicate 4 0)) (n := 4)
    (fun i s => (∀ j, j < 4 → gW s.1 j = if j < i then uV a * n.toNat / 18446744073709551616 ^ j % 18446744073709551616 else gW a j) ∧ s.2.toNat = (uV a % 18446744073709551616 ^ i) * n.toNat / 18446744073709551616 ^ i) ?_ ?_ 4 0 (a, 0) rfl ?_
  · rintro i ⟨q, r⟩ hi ⟨hq, hr⟩ next
    simp only at hq hr next
    have hg : gW q i = gW a i := by rw [hq i hi, if_neg (by omega)]
    have hgl := gW_lt a i
    have hrl := r.toNat_lt
    have two := mul_step (A := uV a) (n := n.toNat) (W := 18446744073709551616) (Nat.pow_pos (n := i) (show 0 < 18446744073709551616 by decide)) (by decide)
    rw [← hr, ← gW_div a i hi, ← Nat.pow_succ] at two
    have hb : gW a i * n.toNat ≤ 18446744073709551615 * 18446744073709551615 := Nat.mul_le_mul (by omega) (by omega)
    have hl : (mulLo (List.getD (Vector.toList q) i 0) n).toNat = gW a i * n.toNat % 18446744073709551616 := by
      unfold mulLo
      rw [lock_eq, UInt64.toNat_mul, gW_def, hg]
    have hh : (mulHi (List.getD (Vector.toList q) i 0) n).toNat = gW a i * n.toNat / 18446744073709551616 := by
      unfold mulHi
      rw [lock_eq, UInt64.toNat_ofNat', gW_def, hg]
      omega
    have wv : ∀ (L Hh : UInt64), L.toNat = gW a i * n.toNat % 18446744073709551616 → Hh.toNat = gW a i * n.toNat / 18446744073709551616 → (L + r + 0).toNat = (r.toNat + gW a i * n.toNat) % 18446744073709551616 ∧ (Hh + addHi L r 0).toNat = (r.toNat + gW a i * n.toNat) / 18446744073709551616 := by
      intro L Hh hl hh
      have hll := L.toNat_lt
      have ha : (addHi L r 0).toNat = (L.toNat + r.toNat) / 18446744073709551616 := by
        unfold addHi
        rw [UInt64.toNat_ofNat', show (0 : UInt64).toNat = 0 from rfl]
        omega
      generalize gW a i * n.toNat = P at *
      constructor
      · rw [UInt64.toNat_add, UInt64.toNat_add, show (0 : UInt64).toNat = 0 from rfl]
        omega
      · rw [UInt64.toNat_add, ha]
        omega
    obtain ⟨w1, w2⟩ := wv _ _ hl hh
    refine Ev.step (fun k => ?_) (next (Vector.setIfInBounds q i (mulLo (List.getD (Vector.toList q) i 0) n + r + 0), mulHi (List.getD (Vector.toList q) i 0) n + addHi (mulLo (List.getD (Vector.toList q) i 0) n) r 0) ⟨fun j hj => ?_, ?_⟩)
    · show big_Mul_h0 (k + 1) n r _ q _ = _
      rw [big_Mul_h0_q, bif_pos (by omega), if_pos (by omega), Int.toNat_natCast, w64_id (by omega) (by omega)]
    · show gW (Vector.setIfInBounds q i _) j = _
      rw [gW_set _ _ _ _ hi]
      by_cases e : i = j
      · subst e
        rw [if_pos rfl, if_pos (by omega), two.2, w1]
      · rw [if_neg e, hq j hj]
        by_cases c : j < i
        · rw [if_pos c, if_pos (by omega)]
        · rw [if_neg c, if_neg (by omega)]
    · show (mulHi (List.getD (Vector.toList q) i 0) n + addHi (mulLo (List.getD (Vector.toList q) i 0) n) r 0).toNat = _
      rw [w2, two.1]
  · rintro ⟨q, r⟩ ⟨hq, hr⟩
    simp only at hq hr
    refine Ev.done fun k => ?_
    show big_Mul_h0 (k + 1) n r _ q _ = _
    rw [big_Mul_h0_q, bif_neg (by omega)]
    rw [mulC_eq]
    refine congrArg some (Prod.ext ?_ ?_)
    · refine w_ext fun j hj => ?_
      show gW q j = gW (uW _) j
      rw [hq j hj, if_pos hj, uW_get _ _ hj]
    · show r = UInt64.ofNat _
      have : uV a % 18446744073709551616 ^ 4 = uV a := Nat.mod_eq_of_lt (uV_lt a)
      rw [this] at hr
      rw [show 115792089237316195423570985008687907853269984665640564039457584007913129639936 = 18446744073709551616 ^ 4 by decide, ← hr, UInt64.ofNat_toNat]
  · refine ⟨fun j hj => ?_, ?_⟩
    · rw [if_neg (by omega)]
    · show (0 : UInt64).toNat = _
      rw [Nat.pow_zero, Nat.mod_one, Nat.zero_mul]
      rfl

end
end Go.Proofs.Ytepcjobghbanmaa.M

namespace Go.Proofs.Ytepcjobghbanmaa.M
open Go
noncomputable section
/-- the loop 0 of moneyer/big.Div -/
def big_Div_h0 : Nat → UInt64 → UInt64 → Int → (Vector UInt64 4) → (Vector UInt64 4) → Option (Vector UInt64 4 × UInt64 × Int)
  | 0, _, _, _, _, _ => none
  | k + 1, n, left, i, a, t4 => bif decide ((0 : Int) ≤ i) then (if ((0 : Int) ≤ i) ∧ (i < (4 : Int)) then
        if (UInt64.toNat left) < (UInt64.toNat n) then
          big_Div_h0 k n (UInt64.ofNat ((((UInt64.toNat left) * (18446744073709551616 : Nat)) + (UInt64.toNat (List.getD (Vector.toList a) (Int.toNat i) (0 : UInt64)))) % (UInt64.toNat n))) (w64 (i - (1 : Int))) (Vector.setIfInBounds a (Int.toNat i) (UInt64.ofNat ((((UInt64.toNat left) * (18446744073709551616 : Nat)) + (UInt64.toNat (List.getD (Vector.toList a) (Int.toNat i) (0 : UInt64)))) / (UInt64.toNat n)))) t4
        else none
      else none)
      else (some (a, left, (0 : Int)))
theorem big_Div_h0_q (k : Nat) (n : UInt64) (left : UInt64) (i : Int) (a : Vector UInt64 4) (t4 : Vector UInt64 4) : big_Div_h0 (k + 1) n left i a t4 =
  (bif decide ((0 : Int) ≤ i) then (if ((0 : Int) ≤ i) ∧ (i < (4 : Int)) then
        if (UInt64.toNat left) < (UInt64.toNat n) then
          big_Div_h0 k n (UInt64.ofNat ((((UInt64.toNat left) * (18446744073709551616 : Nat)) + (UInt64.toNat (List.getD (Vector.toList a) (Int.toNat i) (0 : UInt64)))) % (UInt64.toNat n))) (w64 (i - (1 : Int))) (Vector.setIfInBounds a (Int.toNat i) (UInt64.ofNat ((((UInt64.toNat left) * (18446744073709551616 : Nat)) + (UInt64.toNat (List.getD (Vector.toList a) (Int.toNat i) (0 : UInt64)))) / (UInt64.toNat n)))) t4
        else none
      else none)
      else (some (a, left, (0 : Int)))) := by kernel_rfl
/-- moneyer/big.Div -/
def big_Div (k : Nat) (a : Vector UInt64 4) (n : UInt64) : Option (Vector UInt64 4 × UInt64 × Int) :=
  bif decide (n = (0 : UInt64)) then (some ((Vector.replicate (4 : Nat) (0 : UInt64)), (0 : UInt64), (2 : Int)))
    else (big_Div_h0 k n (0 : UInt64) (3 : Int) a (Vector.replicate (4 : Nat) (0 : UInt64)))
theorem big_Div_q (k : Nat) (a : Vector UInt64 4) (n : UInt64) : big_Div k a n = (bif decide (n = (0 : UInt64)) then (some ((Vector.replicate (4 : Nat) (0 : UInt64)), (0 : UInt64), (2 : Int)))
    else (big_Div_h0 k n (0 : UInt64) (3 : Int) a (Vector.replicate (4 : Nat) (0 : UInt64)))) := by kernel_rfl
theorem dg_two {Y : Nat} (hY : 0 < Y) (A c : Nat) : (A * 18446744073709551616 + c) / Y = A / Y * 18446744073709551616 + (A % Y * 18446744073709551616 + c) / Y ∧ (A * 18446744073709551616 + c) % Y = (A % Y * 18446744073709551616 + c) % Y := by
  have h := Nat.div_add_mod A Y
  have e : A * 18446744073709551616 + c = Y * (A / Y * 18446744073709551616) + (A % Y * 18446744073709551616 + c) := by
    have : A * 18446744073709551616 = (Y * (A / Y) + A % Y) * 18446744073709551616 := by rw [h]
    rw [this]
    grind
  constructor
  · rw [e, Nat.mul_add_div hY]
  · rw [e, Nat.mul_add_mod]
theorem big_Div_spec (a : Vector UInt64 4) (n : UInt64) : ∃ k, big_Div k a n = some (uW (uV a / n.toNat), divR a n, divE n) := by
  show Ev (fun k => big_Div k a n) _
  refine Ev.same (fun k => big_Div_q k a n) ?_
  by_cases c0 : n = 0
  · refine Ev.done0 fun k => ?_
    rw [bif_pos c0, c0]
    rw [divR_eq, divE_eq]
    rw [show (0 : UInt64).toNat = 0 from rfl, if_pos rfl, if_pos rfl, Nat.div_zero]
    rfl
  have hn0 : n.toNat ≠ 0 := fun e => c0 (UInt64.toNat_inj.1 e)
  have hn : 0 < n.toNat := by omega
  have hnl := n.toNat_lt
  refine Ev.same (fun k => bif_neg c0) ?_
  refine Ev.dwn (H := fun k i (s : Vector UInt64 4 × UInt64) => big_Div_h0 k n s.2 i s.1 (Vector.replicate 4 0)) (n := 4)
    (fun i s => (∀ j, j < 4 → gW s.1 j = if i ≤ j then uV a / n.toNat / 18446744073709551616 ^ j % 18446744073709551616 else gW a j) ∧ s.2.toNat = uV a / 18446744073709551616 ^ i % n.toNat) ?_ ?_ 4 (a, 0) (Nat.le_refl _) ?_
  · rintro i ⟨q, r⟩ hi ⟨hq, hr⟩ next
    simp only at hq hr next
    have hrl : r.toNat < n.toNat := by rw [hr]; exact Nat.mod_lt _ hn
    have hg : gW q i = gW a i := by rw [hq i hi, if_neg (by omega)]
    have hgl := gW_lt a i
    have hs : uV a / 18446744073709551616 ^ i = uV a / 18446744073709551616 ^ (i + 1) * 18446744073709551616 + gW a i := by
      rw [gW_div a i hi, Nat.pow_succ, ← Nat.div_div_eq_div_mul]
      exact (Nat.div_add_mod' _ _).symm
    have two := dg_two hn (uV a / 18446744073709551616 ^ (i + 1)) (gW a i)
    rw [← hr, ← hs] at two
    have dl : (r.toNat * 18446744073709551616 + gW a i) / n.toNat < 18446744073709551616 := by
      rw [Nat.div_lt_iff_lt_mul hn]
      have : (r.toNat + 1) * 18446744073709551616 ≤ n.toNat * 18446744073709551616 := Nat.mul_le_mul_right _ hrl
      omega
    have ml := Nat.mod_lt (r.toNat * 18446744073709551616 + gW a i) hn
    refine Ev.step (fun k => ?_) (next (Vector.setIfInBounds q i (UInt64.ofNat ((r.toNat * 18446744073709551616 + gW a i) / n.toNat)), UInt64.ofNat ((r.toNat * 18446744073709551616 + gW a i) % n.toNat)) ⟨fun j hj => ?_, ?_⟩)
    · show big_Div_h0 (k + 1) n r _ q _ = _
      rw [big_Div_h0_q, bif_pos (by omega), if_pos (by omega), if_pos hrl, Int.toNat_natCast, gW_def, hg, w64_id (by omega) (by omega)]
    · show gW (Vector.setIfInBounds q i _) j = _
      rw [gW_set _ _ _ _ hi]
      by_cases e : i = j
      · subst e
        rw [if_pos rfl, if_pos (Nat.le_refl _), UInt64.toNat_ofNat', Nat.mod_eq_of_lt (by omega), Nat.div_div_eq_div_mul, Nat.mul_comm n.toNat, ← Nat.div_div_eq_div_mul, two.1, Nat.mul_comm (_ / _), Nat.mul_add_mod, Nat.mod_eq_of_lt dl]
      · rw [if_neg e, hq j hj]
        by_cases c : i + 1 ≤ j
        · rw [if_pos c, if_pos (by omega)]
        · rw [if_neg c, if_neg (by omega)]
    · show (UInt64.ofNat _).toNat = _
      rw [UInt64.toNat_ofNat', two.2, Nat.mod_eq_of_lt (by omega)]
  · rintro ⟨q, r⟩ ⟨hq, hr⟩
    simp only at hq hr
    refine Ev.done fun k => ?_
    show big_Div_h0 (k + 1) n r _ q _ = _
    rw [big_Div_h0_q, bif_neg (by omega)]
    rw [divR_eq, divE_eq]
    refine congrArg some (Prod.ext ?_ (Prod.ext ?_ ?_))
    · refine w_ext fun j hj => ?_
      show gW q j = gW (uW _) j
      rw [hq j hj, if_pos (Nat.zero_le _), uW_get _ _ hj]
    · show r = if n.toNat = 0 then 0 else _
      rw [if_neg hn0]
      rw [Nat.pow_zero, Nat.div_one] at hr
      rw [← hr, UInt64.ofNat_toNat]
    · show (0 : Int) = if n.toNat = 0 then 2 else 0
      rw [if_neg hn0]
  · refine ⟨fun j hj => ?_, ?_⟩
    · rw [if_neg (by omega)]
    · show (0 : UInt64).toNat = _
      rw [Nat.div_eq_of_lt (uV_lt a), Nat.zero_mod]
      rfl

end
end Go.Proofs.Ytepcjobghbanmaa.M

namespace Go.Proofs.Ytepcjobghbanmaa.M
open Go
noncomputable section
/-- the loop 0 of moneyer/big.Sub -/
def big_Sub_h0 : Nat → UInt64 → Int → (Vector UInt64 4) → (Vector UInt64 4) → (Vector UInt64 4) → Option (Vector UInt64 4 × Bool)
  | 0, _, _, _, _, _ => none
  | k + 1, c, t8, a, b, t4 => bif decide (t8 < (4 : Int)) then (if ((0 : Int) ≤ t8) ∧ (t8 < (4 : Int)) then
        if (UInt64.toNat c) ≤ (1 : Nat) then
          big_Sub_h0 k (subHi (List.getD (Vector.toList a) (Int.toNat t8) (0 : UInt64)) (List.getD (Vector.toList b) (Int.toNat t8) (0 : UInt64)) c) (w64 (t8 + (1 : Int))) (Vector.setIfInBounds a (Int.toNat t8) (((List.getD (Vector.toList a) (Int.toNat t8) (0 : UInt64)) - (List.getD (Vector.toList b) (Int.toNat t8) (0 : UInt64))) - c)) b t4
        else none
      else none)
      else (some (a, (!(decide (c = (0 : UInt64))))))
theorem big_Sub_h0_q (k : Nat) (c : UInt64) (t8 : Int) (a : Vector UInt64 4) (b : Vector UInt64 4) (t4 : Vector UInt64 4) : big_Sub_h0 (k + 1) c t8 a b t4 =
  (bif decide (t8 < (4 : Int)) then (if ((0 : Int) ≤ t8) ∧ (t8 < (4 : Int)) then
        if (UInt64.toNat c) ≤ (1 : Nat) then
          big_Sub_h0 k (subHi (List.getD (Vector.toList a) (Int.toNat t8) (0 : UInt64)) (List.getD (Vector.toList b) (Int.toNat t8) (0 : UInt64)) c) (w64 (t8 + (1 : Int))) (Vector.setIfInBounds a (Int.toNat t8) (((List.getD (Vector.toList a) (Int.toNat t8) (0 : UInt64)) - (List.getD (Vector.toList b) (Int.toNat t8) (0 : UInt64))) - c)) b t4
        else none
      else none)
      else (some (a, (!(decide (c = (0 : UInt64))))))) := by kernel_rfl
/-- moneyer/big.Sub -/
def big_Sub (k : Nat) (a : Vector UInt64 4) (b : Vector UInt64 4) : Option (Vector UInt64 4 × Bool) :=
  big_Sub_h0 k (0 : UInt64) (0 : Int) a b (Vector.replicate (4 : Nat) (0 : UInt64))
theorem big_Sub_q (k : Nat) (a : Vector UInt64 4) (b : Vector UInt64 4) : big_Sub k a b = (big_Sub_h0 k (0 : UInt64) (0 : Int) a b (Vector.replicate (4 : Nat) (0 : UInt64))) := by kernel_rfl
theorem sub_mod {v A B k : Nat} (h : 115792089237316195423570985008687907853269984665640564039457584007913129639936 * k + A = v + B) (h1 : v < 115792089237316195423570985008687907853269984665640564039457584007913129639936) (h2 : A < 115792089237316195423570985008687907853269984665640564039457584007913129639936) (h3 : B < 115792089237316195423570985008687907853269984665640564039457584007913129639936) :
    v = (A + 115792089237316195423570985008687907853269984665640564039457584007913129639936 - B) % 115792089237316195423570985008687907853269984665640564039457584007913129639936 ∧ (¬ k = 0 ↔ A < B) := by
  omega
theorem sub4 (g0 g1 g2 g3 x0 x1 x2 x3 y0 y1 y2 y3 k1 k2 k3 k4 : Nat) (e1 : g0 + y0 + 0 = x0 + 18446744073709551616 * k1) (e2 : g1 + y1 + k1 = x1 + 18446744073709551616 * k2) (e3 : g2 + y2 + k2 = x2 + 18446744073709551616 * k3) (e4 : g3 + y3 + k3 = x3 + 18446744073709551616 * k4) :
    115792089237316195423570985008687907853269984665640564039457584007913129639936 * k4 + (x0 + 18446744073709551616 * (x1 + 18446744073709551616 * (x2 + 18446744073709551616 * x3))) = (g0 + 18446744073709551616 * (g1 + 18446744073709551616 * (g2 + 18446744073709551616 * g3))) + (y0 + 18446744073709551616 * (y1 + 18446744073709551616 * (y2 + 18446744073709551616 * y3))) := by
  omega
theorem big_Sub_spec0 (a b : Vector UInt64 4) : ∃ k, big_Sub k a b = some (subS a b) := by
  show Ev (fun k => big_Sub k a b) _
  refine Ev.same (fun k => big_Sub_q k a b) ?_
  have st : ∀ (i : Nat), i < 4 → ∀ (c : UInt64) (v : Vector UInt64 4), c.toNat ≤ 1 → ∀ f, big_Sub_h0 (f + 1) c (i : Int) v b (Vector.replicate 4 0) =
      big_Sub_h0 f (subHi (List.getD (Vector.toList v) i 0) (List.getD (Vector.toList b) i 0) c) ((i : Int) + 1) (Vector.setIfInBounds v i (List.getD (Vector.toList v) i 0 - List.getD (Vector.toList b) i 0 - c)) b (Vector.replicate 4 0) := by
    intro i hi c v hc f
    rw [big_Sub_h0_q, bif_pos (by omega), if_pos (by omega), if_pos hc, Int.toNat_natCast, w64_id (by omega) (by omega)]
  have hv : ∀ x y c : UInt64, c.toNat ≤ 1 → (subHi x y c).toNat = if x.toNat < y.toNat + c.toNat then 1 else 0 := by
    intro x y c hc
    unfold subHi
    split <;> rfl
  have hs : ∀ x y c : UInt64, (x - y - c).toNat = (x.toNat + 36893488147419103232 - y.toNat - c.toNat) % 18446744073709551616 := by
    intro x y c
    have := x.toNat_lt
    have := y.toNat_lt
    have := c.toNat_lt
    rw [UInt64.toNat_sub, UInt64.toNat_sub]; omega
  have c1 : ∀ x y c : UInt64, c.toNat ≤ 1 → (subHi x y c).toNat ≤ 1 := by
    intro x y c hc
    have := x.toNat_lt
    have := y.toNat_lt
    rw [hv x y c hc]; split <;> omega
  let x0 := List.getD (Vector.toList a) 0 0
  let x1 := List.getD (Vector.toList a) 1 0
  let x2 := List.getD (Vector.toList a) 2 0
  let x3 := List.getD (Vector.toList a) 3 0
  let y0 := List.getD (Vector.toList b) 0 0
  let y1 := List.getD (Vector.toList b) 1 0
  let y2 := List.getD (Vector.toList b) 2 0
  let y3 := List.getD (Vector.toList b) 3 0
  let k1 := subHi x0 y0 0
  let k2 := subHi x1 y1 k1
  let k3 := subHi x2 y2 k2
  let k4 := subHi x3 y3 k3
  have z0 : (0 : UInt64).toNat ≤ 1 := by decide
  have z1 := c1 x0 y0 0 z0
  have z2 := c1 x1 y1 k1 z1
  have z3 := c1 x2 y2 k2 z2
  let v1 := Vector.setIfInBounds a 0 (x0 - y0 - 0)
  let v2 := Vector.setIfInBounds v1 1 (x1 - y1 - k1)
  let v3 := Vector.setIfInBounds v2 2 (x2 - y2 - k2)
  let v4 := Vector.setIfInBounds v3 3 (x3 - y3 - k3)
  have g1 : List.getD (Vector.toList v1) 1 0 = x1 := by rw [vget_set _ _ _ _ _ (by omega), if_neg (by omega)]
  have g2 : List.getD (Vector.toList v2) 2 0 = x2 := by rw [vget_set _ _ _ _ _ (by omega), if_neg (by omega), vget_set _ _ _ _ _ (by omega), if_neg (by omega)]
  have g3 : List.getD (Vector.toList v3) 3 0 = x3 := by rw [vget_set _ _ _ _ _ (by omega), if_neg (by omega), vget_set _ _ _ _ _ (by omega), if_neg (by omega), vget_set _ _ _ _ _ (by omega), if_neg (by omega)]
  refine Ev.step (fun f => st 0 (by omega) 0 a z0 f) (Ev.step (fun f => st 1 (by omega) k1 v1 z1 f) ?_)
  rw [g1]
  refine Ev.step (fun f => st 2 (by omega) k2 v2 z2 f) ?_
  rw [g2]
  refine Ev.step (fun f => st 3 (by omega) k3 v3 z3 f) ?_
  rw [g3]
  refine Ev.done fun f => ?_
  show big_Sub_h0 (f + 1) k4 _ v4 b (Vector.replicate 4 0) = _
  rw [big_Sub_h0_q, bif_neg (by omega)]
  have w0 : gW v4 0 = (x0 - y0 - 0).toNat := by unfold gW; rw [vget_set _ _ _ _ _ (by omega), if_neg (by omega), vget_set _ _ _ _ _ (by omega), if_neg (by omega), vget_set _ _ _ _ _ (by omega), if_neg (by omega), vget_set _ _ _ _ _ (by omega), if_pos rfl]
  have w1 : gW v4 1 = (x1 - y1 - k1).toNat := by unfold gW; rw [vget_set _ _ _ _ _ (by omega), if_neg (by omega), vget_set _ _ _ _ _ (by omega), if_neg (by omega), vget_set _ _ _ _ _ (by omega), if_pos rfl]
  have w2 : gW v4 2 = (x2 - y2 - k2).toNat := by unfold gW; rw [vget_set _ _ _ _ _ (by omega), if_neg (by omega), vget_set _ _ _ _ _ (by omega), if_pos rfl]
  have w3 : gW v4 3 = (x3 - y3 - k3).toNat := by unfold gW; rw [vget_set _ _ _ _ _ (by omega), if_pos rfl]
  have word : ∀ x y c : UInt64, c.toNat ≤ 1 → (x - y - c).toNat + y.toNat + c.toNat = x.toNat + 18446744073709551616 * (subHi x y c).toNat := by
    intro x y c hc
    have lx := x.toNat_lt
    have ly := y.toNat_lt
    rw [hs, hv x y c hc]
    split <;> omega
  have e1 := word x0 y0 0 z0
  have e2 := word x1 y1 k1 z1
  have e3 := word x2 y2 k2 z2
  have e4 := word x3 y3 k3 z3
  rw [← w0, show (0 : UInt64).toNat = 0 from rfl] at e1
  rw [← w1] at e2
  rw [← w2] at e3
  rw [← w3] at e4
  have hval : 115792089237316195423570985008687907853269984665640564039457584007913129639936 * k4.toNat + uV a = uV v4 + uV b := sub4 (gW v4 0) (gW v4 1) (gW v4 2) (gW v4 3) x0.toNat x1.toNat x2.toNat x3.toNat y0.toNat y1.toNat y2.toNat y3.toNat k1.toNat k2.toNat k3.toNat k4.toNat e1 e2 e3 e4
  have hlt := uV_lt v4
  have hla := uV_lt a
  have hlb := uV_lt b
  have hk4 : (k4 = 0) ↔ k4.toNat = 0 := by rw [← UInt64.toNat_inj]; rfl
  have r := @sub_mod (uV v4) (uV a) (uV b) k4.toNat hval hlt hla hlb
  have fin : ∀ (v : Vector UInt64 4) (k : UInt64), ((k = 0) ↔ k.toNat = 0) → (uV v = (uV a + 115792089237316195423570985008687907853269984665640564039457584007913129639936 - uV b) % 115792089237316195423570985008687907853269984665640564039457584007913129639936 ∧ (¬ k.toNat = 0 ↔ uV a < uV b)) → (v, !decide (k = 0)) = subS a b := by
    intro v k hk r
    unfold subS
    refine Prod.ext (uV_inj ?_) ?_
    · show uV v = uV (uW _)
      rw [uV_uW]
      exact r.1
    · show (!decide (k = 0)) = decide _
      rw [← decide_not, decide_eq_decide, hk]
      exact r.2
  exact congrArg some (fin v4 k4 hk4 r)

theorem big_Sub_spec (a b : Vector UInt64 4) : ∃ k, big_Sub k a b = some (subV a b, subB a b) := by
  rw [subV_eq, subB_eq]
  exact big_Sub_spec0 a b

end
end Go.Proofs.Ytepcjobghbanmaa.M

namespace Go.Proofs.Ytepcjobghbanmaa.M
open Go
noncomputable section
/-- moneyer/big.Less -/
def big_Less (a : Vector UInt64 4) (b : Vector UInt64 4) : Bool :=
  (subB a b)
theorem big_Less_q (a : Vector UInt64 4) (b : Vector UInt64 4) : big_Less a b = ((subB a b)) := by kernel_rfl
theorem big_Less_spec (a b : Vector UInt64 4) : big_Less a b = subB a b := rfl

end
end Go.Proofs.Ytepcjobghbanmaa.M

namespace Go.Proofs.Ytepcjobghbanmaa.M
open Go
noncomputable section
/-- the loop 0 of moneyer/big.OfHash -/
def big_OfHash_h0 : Nat → (Vector UInt8 32) → Int → (Vector UInt64 4) → (Vector UInt64 4) → Option (Vector UInt64 4)
  | 0, _, _, _, _ => none
  | k + 1, t6, t7, t2, a => bif decide (t7 < (32 : Int)) then (if ((0 : Int) ≤ t7) ∧ (t7 < (32 : Int)) then
        if ((0 : Int) ≤ (w64 (Int.tdiv t7 (8 : Int)))) ∧ ((w64 (Int.tdiv t7 (8 : Int))) < (4 : Int)) then
          big_OfHash_h0 k t6 (w64 (t7 + (1 : Int))) t2 (Vector.setIfInBounds a (Int.toNat (w64 (Int.tdiv t7 (8 : Int)))) ((List.getD (Vector.toList a) (Int.toNat (w64 (Int.tdiv t7 (8 : Int)))) (0 : UInt64)) ||| (shl_u64 (UInt8.toUInt64 (List.getD (Vector.toList t6) (Int.toNat t7) (0 : UInt8))) (UInt64.toNat ((8 : UInt64) * (UInt64.ofInt (Int.tmod t7 (8 : Int))))))))
        else none
      else none)
      else (some a)
theorem big_OfHash_h0_q (k : Nat) (t6 : Vector UInt8 32) (t7 : Int) (t2 : Vector UInt64 4) (a : Vector UInt64 4) : big_OfHash_h0 (k + 1) t6 t7 t2 a =
  (bif decide (t7 < (32 : Int)) then (if ((0 : Int) ≤ t7) ∧ (t7 < (32 : Int)) then
        if ((0 : Int) ≤ (w64 (Int.tdiv t7 (8 : Int)))) ∧ ((w64 (Int.tdiv t7 (8 : Int))) < (4 : Int)) then
          big_OfHash_h0 k t6 (w64 (t7 + (1 : Int))) t2 (Vector.setIfInBounds a (Int.toNat (w64 (Int.tdiv t7 (8 : Int)))) ((List.getD (Vector.toList a) (Int.toNat (w64 (Int.tdiv t7 (8 : Int)))) (0 : UInt64)) ||| (shl_u64 (UInt8.toUInt64 (List.getD (Vector.toList t6) (Int.toNat t7) (0 : UInt8))) (UInt64.toNat ((8 : UInt64) * (UInt64.ofInt (Int.tmod t7 (8 : Int))))))))
        else none
      else none)
      else (some a)) := by kernel_rfl
/-- moneyer/big.OfHash -/
def big_OfHash (k : Nat) (h_0 : Vector UInt8 32) : Option (Vector UInt64 4) :=
  big_OfHash_h0 k h_0 (0 : Int) (Vector.replicate (4 : Nat) (0 : UInt64)) (Vector.replicate (4 : Nat) (0 : UInt64))
theorem big_OfHash_q (k : Nat) (h_0 : Vector UInt8 32) : big_OfHash k h_0 = (big_OfHash_h0 k h_0 (0 : Int) (Vector.replicate (4 : Nat) (0 : UInt64)) (Vector.replicate (4 : Nat) (0 : UInt64))) := by kernel_rfl
theorem big_OfHash_spec0 (h : Vector UInt8 32) : ∃ k, big_OfHash k h = some (uW (numU (Vector.toList h))) := by
  show Ev (fun k => big_OfHash k h) _
  refine Ev.same (fun k => big_OfHash_q k h) ?_
  refine Ev.inv (H := fun k i a => big_OfHash_h0 k h i (Vector.replicate 4 0) a) (n := 32)
    (fun i a => ∀ j t, j < 4 → t < 64 → (gW a j).testBit t = (decide (8 * j + t / 8 < i) && (numU (Vector.toList h)).testBit (64 * j + t))) ?_ ?_ 32 0 _ rfl ?_
  · intro i a hi hv next
    have ed : Int.tdiv (i : Int) 8 = ((i / 8 : Nat) : Int) := rfl
    have em : Int.tmod (i : Int) 8 = ((i % 8 : Nat) : Int) := rfl
    have ha : UInt64.toNat ((8 : UInt64) * UInt64.ofInt ((i % 8 : Nat) : Int)) = 8 * (i % 8) := by
      rw [UInt64.toNat_mul, u64_ofInt (by omega), show (8 : UInt64).toNat = 8 from rfl]
      omega
    refine Ev.step (fun k => ?_) (next (Vector.setIfInBounds a (i / 8) (List.getD (Vector.toList a) (i / 8) 0 ||| shl_u64 (UInt8.toUInt64 (List.getD (Vector.toList h) i 0)) (8 * (i % 8)))) ?_)
    · rw [big_OfHash_h0_q, bif_pos (by omega), if_pos (by omega), ed, em, w64_nat (by omega), if_pos (by omega), ha, w64_id (by omega) (by omega), Int.toNat_natCast, Int.toNat_natCast]
    · intro j t hj ht
      rw [gW_set _ _ _ _ (by omega)]
      by_cases e : i / 8 = j
      · rw [if_pos e, or_bit, shl_bit _ _ _ (by omega), gW_def, e, hv j t hj ht, decide_eq_true ht, Bool.true_and, UInt8.toNat_toUInt64, numU_bit]
        by_cases c1 : 8 * j + t / 8 = i
        · rw [decide_eq_false (by omega), Bool.false_and, Bool.false_or, decide_eq_true (by omega), Bool.true_and, decide_eq_true (by omega), Bool.true_and]
          rw [show (64 * j + t) / 8 = i by omega]
          congr 1; omega
        · by_cases c2 : 8 * (i % 8) ≤ t
          · rw [b_bit_high _ (t - 8 * (i % 8)) (by omega), Bool.and_false, Bool.or_false]
            congr 1
            rw [decide_eq_decide]; omega
          · rw [decide_eq_false c2, Bool.false_and, Bool.or_false]
            congr 1
            rw [decide_eq_decide]; omega
      · rw [if_neg e, hv j t hj ht]
        congr 1
        rw [decide_eq_decide]; omega
  · intro a hv
    refine Ev.done fun k => ?_
    show big_OfHash_h0 (k + 1) _ _ _ _ = _
    rw [big_OfHash_h0_q, bif_neg (by omega)]
    refine congrArg some (vecI fun j t hj ht => ?_)
    rw [hv j t hj ht, decide_eq_true (by omega), Bool.true_and]
  · intro j t hj ht
    rw [gW_rep, decide_eq_false (by omega), Bool.false_and, Nat.zero_testBit]

theorem big_OfHash_spec (h : Vector UInt8 32) : ∃ k, big_OfHash k h = some (hashU h) := by
  rw [hashU_eq]
  exact big_OfHash_spec0 h

end
end Go.Proofs.Ytepcjobghbanmaa.M

namespace Go.Proofs.Ytepcjobghbanmaa.M
open Go
noncomputable section
/-- the loop 0 of moneyer/big.Add -/
def big_Add_h0 : Nat → UInt64 → Int → (Vector UInt64 4) → (Vector UInt64 4) → (Vector UInt64 4) → Option (Vector UInt64 4 × Bool)
  | 0, _, _, _, _, _ => none
  | k + 1, c, t8, a, b, t4 => bif decide (t8 < (4 : Int)) then (if ((0 : Int) ≤ t8) ∧ (t8 < (4 : Int)) then
        if (UInt64.toNat c) ≤ (1 : Nat) then
          big_Add_h0 k (addHi (List.getD (Vector.toList a) (Int.toNat t8) (0 : UInt64)) (List.getD (Vector.toList b) (Int.toNat t8) (0 : UInt64)) c) (w64 (t8 + (1 : Int))) (Vector.setIfInBounds a (Int.toNat t8) (((List.getD (Vector.toList a) (Int.toNat t8) (0 : UInt64)) + (List.getD (Vector.toList b) (Int.toNat t8) (0 : UInt64))) + c)) b t4
        else none
      else none)
      else (some (a, (!(decide (c = (0 : UInt64))))))
theorem big_Add_h0_q (k : Nat) (c : UInt64) (t8 : Int) (a : Vector UInt64 4) (b : Vector UInt64 4) (t4 : Vector UInt64 4) : big_Add_h0 (k + 1) c t8 a b t4 =
  (bif decide (t8 < (4 : Int)) then (if ((0 : Int) ≤ t8) ∧ (t8 < (4 : Int)) then
        if (UInt64.toNat c) ≤ (1 : Nat) then
          big_Add_h0 k (addHi (List.getD (Vector.toList a) (Int.toNat t8) (0 : UInt64)) (List.getD (Vector.toList b) (Int.toNat t8) (0 : UInt64)) c) (w64 (t8 + (1 : Int))) (Vector.setIfInBounds a (Int.toNat t8) (((List.getD (Vector.toList a) (Int.toNat t8) (0 : UInt64)) + (List.getD (Vector.toList b) (Int.toNat t8) (0 : UInt64))) + c)) b t4
        else none
      else none)
      else (some (a, (!(decide (c = (0 : UInt64))))))) := by kernel_rfl
/-- moneyer/big.Add -/
def big_Add (k : Nat) (a : Vector UInt64 4) (b : Vector UInt64 4) : Option (Vector UInt64 4 × Bool) :=
  big_Add_h0 k (0 : UInt64) (0 : Int) a b (Vector.replicate (4 : Nat) (0 : UInt64))
theorem big_Add_q (k : Nat) (a : Vector UInt64 4) (b : Vector UInt64 4) : big_Add k a b = (big_Add_h0 k (0 : UInt64) (0 : Int) a b (Vector.replicate (4 : Nat) (0 : UInt64))) := by kernel_rfl
theorem big_Add_spec0 (a b : Vector UInt64 4) : ∃ k, big_Add k a b = some (addS a b) := by
  show Ev (fun k => big_Add k a b) _
  refine Ev.same (fun k => big_Add_q k a b) ?_
  have st : ∀ (i : Nat), i < 4 → ∀ (c : UInt64) (v : Vector UInt64 4), c.toNat ≤ 1 → ∀ f, big_Add_h0 (f + 1) c (i : Int) v b (Vector.replicate 4 0) =
      big_Add_h0 f (addHi (List.getD (Vector.toList v) i 0) (List.getD (Vector.toList b) i 0) c) ((i : Int) + 1) (Vector.setIfInBounds v i (List.getD (Vector.toList v) i 0 + List.getD (Vector.toList b) i 0 + c)) b (Vector.replicate 4 0) := by
    intro i hi c v hc f
    rw [big_Add_h0_q, bif_pos (by omega), if_pos (by omega), if_pos hc, Int.toNat_natCast, w64_id (by omega) (by omega)]
  have hv : ∀ x y c : UInt64, c.toNat ≤ 1 → (addHi x y c).toNat = (x.toNat + y.toNat + c.toNat) / 18446744073709551616 := by
    intro x y c hc
    have := x.toNat_lt
    have := y.toNat_lt
    unfold addHi
    rw [UInt64.toNat_ofNat']; omega
  have hs : ∀ x y c : UInt64, (x + y + c).toNat = (x.toNat + y.toNat + c.toNat) % 18446744073709551616 := by
    intro x y c
    rw [UInt64.toNat_add, UInt64.toNat_add]; omega
  have c1 : ∀ x y c : UInt64, c.toNat ≤ 1 → (addHi x y c).toNat ≤ 1 := by
    intro x y c hc
    have := x.toNat_lt
    have := y.toNat_lt
    rw [hv x y c hc]; omega
  let x0 := List.getD (Vector.toList a) 0 0
  let x1 := List.getD (Vector.toList a) 1 0
  let x2 := List.getD (Vector.toList a) 2 0
  let x3 := List.getD (Vector.toList a) 3 0
  let y0 := List.getD (Vector.toList b) 0 0
  let y1 := List.getD (Vector.toList b) 1 0
  let y2 := List.getD (Vector.toList b) 2 0
  let y3 := List.getD (Vector.toList b) 3 0
  let k1 := addHi x0 y0 0
  let k2 := addHi x1 y1 k1
  let k3 := addHi x2 y2 k2
  let k4 := addHi x3 y3 k3
  have z0 : (0 : UInt64).toNat ≤ 1 := by decide
  have z1 := c1 x0 y0 0 z0
  have z2 := c1 x1 y1 k1 z1
  have z3 := c1 x2 y2 k2 z2
  let v1 := Vector.setIfInBounds a 0 (x0 + y0 + 0)
  let v2 := Vector.setIfInBounds v1 1 (x1 + y1 + k1)
  let v3 := Vector.setIfInBounds v2 2 (x2 + y2 + k2)
  let v4 := Vector.setIfInBounds v3 3 (x3 + y3 + k3)
  have g1 : List.getD (Vector.toList v1) 1 0 = x1 := by rw [vget_set _ _ _ _ _ (by omega), if_neg (by omega)]
  have g2 : List.getD (Vector.toList v2) 2 0 = x2 := by rw [vget_set _ _ _ _ _ (by omega), if_neg (by omega), vget_set _ _ _ _ _ (by omega), if_neg (by omega)]
  have g3 : List.getD (Vector.toList v3) 3 0 = x3 := by rw [vget_set _ _ _ _ _ (by omega), if_neg (by omega), vget_set _ _ _ _ _ (by omega), if_neg (by omega), vget_set _ _ _ _ _ (by omega), if_neg (by omega)]
  refine Ev.step (fun f => st 0 (by omega) 0 a z0 f) (Ev.step (fun f => st 1 (by omega) k1 v1 z1 f) ?_)
  rw [g1]
  refine Ev.step (fun f => st 2 (by omega) k2 v2 z2 f) ?_
  rw [g2]
  refine Ev.step (fun f => st 3 (by omega) k3 v3 z3 f) ?_
  rw [g3]
  refine Ev.done fun f => ?_
  show big_Add_h0 (f + 1) k4 _ v4 b (Vector.replicate 4 0) = _
  rw [big_Add_h0_q, bif_neg (by omega)]
  have hx : uV a = x0.toNat + 18446744073709551616 * (x1.toNat + 18446744073709551616 * (x2.toNat + 18446744073709551616 * x3.toNat)) := rfl
  have hy : uV b = y0.toNat + 18446744073709551616 * (y1.toNat + 18446744073709551616 * (y2.toNat + 18446744073709551616 * y3.toNat)) := rfl
  have w0 : gW v4 0 = (x0 + y0 + 0).toNat := by unfold gW; rw [vget_set _ _ _ _ _ (by omega), if_neg (by omega), vget_set _ _ _ _ _ (by omega), if_neg (by omega), vget_set _ _ _ _ _ (by omega), if_neg (by omega), vget_set _ _ _ _ _ (by omega), if_pos rfl]
  have w1 : gW v4 1 = (x1 + y1 + k1).toNat := by unfold gW; rw [vget_set _ _ _ _ _ (by omega), if_neg (by omega), vget_set _ _ _ _ _ (by omega), if_neg (by omega), vget_set _ _ _ _ _ (by omega), if_pos rfl]
  have w2 : gW v4 2 = (x2 + y2 + k2).toNat := by unfold gW; rw [vget_set _ _ _ _ _ (by omega), if_neg (by omega), vget_set _ _ _ _ _ (by omega), if_pos rfl]
  have w3 : gW v4 3 = (x3 + y3 + k3).toNat := by unfold gW; rw [vget_set _ _ _ _ _ (by omega), if_pos rfl]
  have e1 : k1.toNat = _ := hv x0 y0 0 z0
  have e2 : k2.toNat = _ := hv x1 y1 k1 z1
  have e3 : k3.toNat = _ := hv x2 y2 k2 z2
  have e4 : k4.toNat = _ := hv x3 y3 k3 z3
  rw [hs] at w0 w1 w2 w3
  rw [show (0 : UInt64).toNat = 0 from rfl] at w0 e1
  have lx0 := x0.toNat_lt
  have lx1 := x1.toNat_lt
  have lx2 := x2.toNat_lt
  have lx3 := x3.toNat_lt
  have ly0 := y0.toNat_lt
  have ly1 := y1.toNat_lt
  have ly2 := y2.toNat_lt
  have ly3 := y3.toNat_lt
  have hval : uV v4 + 115792089237316195423570985008687907853269984665640564039457584007913129639936 * k4.toNat = uV a + uV b := by
    rw [hx, hy]
    unfold uV
    rw [w0, w1, w2, w3]
    generalize x0.toNat = a0 at *
    generalize x1.toNat = a1 at *
    generalize x2.toNat = a2 at *
    generalize x3.toNat = a3 at *
    generalize y0.toNat = b0 at *
    generalize y1.toNat = b1 at *
    generalize y2.toNat = b2 at *
    generalize y3.toNat = b3 at *
    generalize k1.toNat = n1 at *
    generalize k2.toNat = n2 at *
    generalize k3.toNat = n3 at *
    generalize k4.toNat = n4 at *
    omega
  have hlt := uV_lt v4
  have hk4 : (k4 = 0) ↔ k4.toNat = 0 := by rw [← UInt64.toNat_inj]; rfl
  unfold addS
  refine congrArg some (Prod.ext (uV_inj ?_) ?_)
  · rw [uV_uW]
    show uV v4 = _
    omega
  · show (!decide (k4 = 0)) = decide _
    rw [← decide_not, decide_eq_decide, hk4]
    omega

theorem big_Add_spec (a b : Vector UInt64 4) : ∃ k, big_Add k a b = some (addV a b, addB a b) := by
  rw [← addS_eq]
  exact big_Add_spec0 a b

end
end Go.Proofs.Ytepcjobghbanmaa.M

namespace Go.Proofs.Ytepcjobghbanmaa.M
open Go
noncomputable section
/-- moneyer/big.bit -/
def big_bit (a : Vector UInt64 4) (n : Int) : Option (Bool) :=
  if ((0 : Int) ≤ (w64 (Int.tdiv n (64 : Int)))) ∧ ((w64 (Int.tdiv n (64 : Int))) < (4 : Int)) then
    some (!(decide (((shr_u64 (List.getD (Vector.toList a) (Int.toNat (w64 (Int.tdiv n (64 : Int)))) (0 : UInt64)) (UInt64.toNat ((UInt64.ofInt n) % (64 : UInt64)))) &&& (1 : UInt64)) = (0 : UInt64))))
  else none
theorem big_bit_q (a : Vector UInt64 4) (n : Int) : big_bit a n = (if ((0 : Int) ≤ (w64 (Int.tdiv n (64 : Int)))) ∧ ((w64 (Int.tdiv n (64 : Int))) < (4 : Int)) then
    some (!(decide (((shr_u64 (List.getD (Vector.toList a) (Int.toNat (w64 (Int.tdiv n (64 : Int)))) (0 : UInt64)) (UInt64.toNat ((UInt64.ofInt n) % (64 : UInt64)))) &&& (1 : UInt64)) = (0 : UInt64))))
  else none) := by kernel_rfl
theorem big_bit_spec (a : Vector UInt64 4) (n : Int) (h : 0 ≤ n ∧ n < 256) : big_bit a n = some ((uV a).testBit n.toNat) := by
  obtain ⟨N, rfl⟩ : ∃ N : Nat, n = (N : Int) := ⟨n.toNat, by omega⟩
  have hN : N < 256 := by omega
  rw [big_bit, show Int.tdiv ((N : Nat) : Int) 64 = ((N / 64 : Nat) : Int) from rfl, w64_nat (by omega), if_pos (by omega), amount N hN, Int.toNat_natCast, Int.toNat_natCast, uV_bit a N hN]
  refine congrArg some ?_
  have e := shr_bit (List.getD (Vector.toList a) (N / 64) 0) (N % 64) 0 (by omega)
  rw [Nat.zero_add, gW_def] at e
  rw [← e, ← decide_not, Nat.testBit_zero, decide_eq_decide, ← UInt64.toNat_inj, UInt64.toNat_and, show (1 : UInt64).toNat = 1 from rfl, Nat.and_one_is_mod, show (0 : UInt64).toNat = 0 from rfl]
  omega

end
end Go.Proofs.Ytepcjobghbanmaa.M

namespace Go.Proofs.Ytepcjobghbanmaa.M
open Go
noncomputable section
/-- the loop 0 of moneyer/big.Over -/
def big_Over_h0 : Nat → Int → (Vector UInt64 4) → (Vector UInt64 4) → (Vector UInt64 4) → (Vector UInt64 4) → Option (Vector UInt64 4 × Vector UInt64 4 × Int)
  | 0, _, _, _, _, _ => none
  | k + 1, n, a, b, q, r_ => bif decide ((0 : Int) ≤ n) then (if ((0 : Int) ≤ n) ∧ (n < (256 : Int)) then
        bif Nat.testBit (uV a) (Int.toNat n) then (bif eqb (Nat.testBit (uV r_) (255 : Nat)) false then (bif bif false then true else (!(subB (Vector.setIfInBounds (uW ((uV r_) * ((2 : Nat) ^ (1 : Nat)))) (0 : Nat) ((List.getD (Vector.toList (uW ((uV r_) * ((2 : Nat) ^ (1 : Nat))))) (0 : Nat) (0 : UInt64)) ||| (1 : UInt64))) b)) then (if ((0 : Int) ≤ (w64 (Int.tdiv n (64 : Int)))) ∧ ((w64 (Int.tdiv n (64 : Int))) < (4 : Int)) then
                big_Over_h0 k (w64 (n - (1 : Int))) a b (Vector.setIfInBounds q (Int.toNat (w64 (Int.tdiv n (64 : Int)))) ((List.getD (Vector.toList q) (Int.toNat (w64 (Int.tdiv n (64 : Int)))) (0 : UInt64)) ||| (shl_u64 (1 : UInt64) (UInt64.toNat ((UInt64.ofInt n) % (64 : UInt64)))))) (subV (Vector.setIfInBounds (uW ((uV r_) * ((2 : Nat) ^ (1 : Nat)))) (0 : Nat) ((List.getD (Vector.toList (uW ((uV r_) * ((2 : Nat) ^ (1 : Nat))))) (0 : Nat) (0 : UInt64)) ||| (1 : UInt64))) b)
              else none)
              else (big_Over_h0 k (w64 (n - (1 : Int))) a b q (Vector.setIfInBounds (uW ((uV r_) * ((2 : Nat) ^ (1 : Nat)))) (0 : Nat) ((List.getD (Vector.toList (uW ((uV r_) * ((2 : Nat) ^ (1 : Nat))))) (0 : Nat) (0 : UInt64)) ||| (1 : UInt64)))))
            else (if ((0 : Int) ≤ (w64 (Int.tdiv n (64 : Int)))) ∧ ((w64 (Int.tdiv n (64 : Int))) < (4 : Int)) then
              big_Over_h0 k (w64 (n - (1 : Int))) a b (Vector.setIfInBounds q (Int.toNat (w64 (Int.tdiv n (64 : Int)))) ((List.getD (Vector.toList q) (Int.toNat (w64 (Int.tdiv n (64 : Int)))) (0 : UInt64)) ||| (shl_u64 (1 : UInt64) (UInt64.toNat ((UInt64.ofInt n) % (64 : UInt64)))))) (subV (Vector.setIfInBounds (uW ((uV r_) * ((2 : Nat) ^ (1 : Nat)))) (0 : Nat) ((List.getD (Vector.toList (uW ((uV r_) * ((2 : Nat) ^ (1 : Nat))))) (0 : Nat) (0 : UInt64)) ||| (1 : UInt64))) b)
            else none))
          else (bif eqb (Nat.testBit (uV r_) (255 : Nat)) false then (bif bif false then true else (!(subB (uW ((uV r_) * ((2 : Nat) ^ (1 : Nat)))) b)) then (if ((0 : Int) ≤ (w64 (Int.tdiv n (64 : Int)))) ∧ ((w64 (Int.tdiv n (64 : Int))) < (4 : Int)) then
                big_Over_h0 k (w64 (n - (1 : Int))) a b (Vector.setIfInBounds q (Int.toNat (w64 (Int.tdiv n (64 : Int)))) ((List.getD (Vector.toList q) (Int.toNat (w64 (Int.tdiv n (64 : Int)))) (0 : UInt64)) ||| (shl_u64 (1 : UInt64) (UInt64.toNat ((UInt64.ofInt n) % (64 : UInt64)))))) (subV (uW ((uV r_) * ((2 : Nat) ^ (1 : Nat)))) b)
              else none)
              else (big_Over_h0 k (w64 (n - (1 : Int))) a b q (uW ((uV r_) * ((2 : Nat) ^ (1 : Nat))))))
            else (if ((0 : Int) ≤ (w64 (Int.tdiv n (64 : Int)))) ∧ ((w64 (Int.tdiv n (64 : Int))) < (4 : Int)) then
              big_Over_h0 k (w64 (n - (1 : Int))) a b (Vector.setIfInBounds q (Int.toNat (w64 (Int.tdiv n (64 : Int)))) ((List.getD (Vector.toList q) (Int.toNat (w64 (Int.tdiv n (64 : Int)))) (0 : UInt64)) ||| (shl_u64 (1 : UInt64) (UInt64.toNat ((UInt64.ofInt n) % (64 : UInt64)))))) (subV (uW ((uV r_) * ((2 : Nat) ^ (1 : Nat)))) b)
            else none))
      else none)
      else (some (q, r_, (0 : Int)))
theorem big_Over_h0_q (k : Nat) (n : Int) (a : Vector UInt64 4) (b : Vector UInt64 4) (q : Vector UInt64 4) (r_ : Vector UInt64 4) : big_Over_h0 (k + 1) n a b q r_ =
  (bif decide ((0 : Int) ≤ n) then (if ((0 : Int) ≤ n) ∧ (n < (256 : Int)) then
        bif Nat.testBit (uV a) (Int.toNat n) then (bif eqb (Nat.testBit (uV r_) (255 : Nat)) false then (bif bif false then true else (!(subB (Vector.setIfInBounds (uW ((uV r_) * ((2 : Nat) ^ (1 : Nat)))) (0 : Nat) ((List.getD (Vector.toList (uW ((uV r_) * ((2 : Nat) ^ (1 : Nat))))) (0 : Nat) (0 : UInt64)) ||| (1 : UInt64))) b)) then (if ((0 : Int) ≤ (w64 (Int.tdiv n (64 : Int)))) ∧ ((w64 (Int.tdiv n (64 : Int))) < (4 : Int)) then
                big_Over_h0 k (w64 (n - (1 : Int))) a b (Vector.setIfInBounds q (Int.toNat (w64 (Int.tdiv n (64 : Int)))) ((List.getD (Vector.toList q) (Int.toNat (w64 (Int.tdiv n (64 : Int)))) (0 : UInt64)) ||| (shl_u64 (1 : UInt64) (UInt64.toNat ((UInt64.ofInt n) % (64 : UInt64)))))) (subV (Vector.setIfInBounds (uW ((uV r_) * ((2 : Nat) ^ (1 : Nat)))) (0 : Nat) ((List.getD (Vector.toList (uW ((uV r_) * ((2 : Nat) ^ (1 : Nat))))) (0 : Nat) (0 : UInt64)) ||| (1 : UInt64))) b)
              else none)
              else (big_Over_h0 k (w64 (n - (1 : Int))) a b q (Vector.setIfInBounds (uW ((uV r_) * ((2 : Nat) ^ (1 : Nat)))) (0 : Nat) ((List.getD (Vector.toList (uW ((uV r_) * ((2 : Nat) ^ (1 : Nat))))) (0 : Nat) (0 : UInt64)) ||| (1 : UInt64)))))
            else (if ((0 : Int) ≤ (w64 (Int.tdiv n (64 : Int)))) ∧ ((w64 (Int.tdiv n (64 : Int))) < (4 : Int)) then
              big_Over_h0 k (w64 (n - (1 : Int))) a b (Vector.setIfInBounds q (Int.toNat (w64 (Int.tdiv n (64 : Int)))) ((List.getD (Vector.toList q) (Int.toNat (w64 (Int.tdiv n (64 : Int)))) (0 : UInt64)) ||| (shl_u64 (1 : UInt64) (UInt64.toNat ((UInt64.ofInt n) % (64 : UInt64)))))) (subV (Vector.setIfInBounds (uW ((uV r_) * ((2 : Nat) ^ (1 : Nat)))) (0 : Nat) ((List.getD (Vector.toList (uW ((uV r_) * ((2 : Nat) ^ (1 : Nat))))) (0 : Nat) (0 : UInt64)) ||| (1 : UInt64))) b)
            else none))
          else (bif eqb (Nat.testBit (uV r_) (255 : Nat)) false then (bif bif false then true else (!(subB (uW ((uV r_) * ((2 : Nat) ^ (1 : Nat)))) b)) then (if ((0 : Int) ≤ (w64 (Int.tdiv n (64 : Int)))) ∧ ((w64 (Int.tdiv n (64 : Int))) < (4 : Int)) then
                big_Over_h0 k (w64 (n - (1 : Int))) a b (Vector.setIfInBounds q (Int.toNat (w64 (Int.tdiv n (64 : Int)))) ((List.getD (Vector.toList q) (Int.toNat (w64 (Int.tdiv n (64 : Int)))) (0 : UInt64)) ||| (shl_u64 (1 : UInt64) (UInt64.toNat ((UInt64.ofInt n) % (64 : UInt64)))))) (subV (uW ((uV r_) * ((2 : Nat) ^ (1 : Nat)))) b)
              else none)
              else (big_Over_h0 k (w64 (n - (1 : Int))) a b q (uW ((uV r_) * ((2 : Nat) ^ (1 : Nat))))))
            else (if ((0 : Int) ≤ (w64 (Int.tdiv n (64 : Int)))) ∧ ((w64 (Int.tdiv n (64 : Int))) < (4 : Int)) then
              big_Over_h0 k (w64 (n - (1 : Int))) a b (Vector.setIfInBounds q (Int.toNat (w64 (Int.tdiv n (64 : Int)))) ((List.getD (Vector.toList q) (Int.toNat (w64 (Int.tdiv n (64 : Int)))) (0 : UInt64)) ||| (shl_u64 (1 : UInt64) (UInt64.toNat ((UInt64.ofInt n) % (64 : UInt64)))))) (subV (uW ((uV r_) * ((2 : Nat) ^ (1 : Nat)))) b)
            else none))
      else none)
      else (some (q, r_, (0 : Int)))) := by kernel_rfl
/-- moneyer/big.Over -/
def big_Over (k : Nat) (a : Vector UInt64 4) (b : Vector UInt64 4) : Option (Vector UInt64 4 × Vector UInt64 4 × Int) :=
  bif decide ((Vector.toList b) = (Vector.toList (Vector.replicate (4 : Nat) (0 : UInt64)))) then (some ((Vector.replicate (4 : Nat) (0 : UInt64)), (Vector.replicate (4 : Nat) (0 : UInt64)), (2 : Int)))
    else (big_Over_h0 k (w64 ((((lenN (uV a)) : Nat) : Int) - (1 : Int))) a b (Vector.replicate (4 : Nat) (0 : UInt64)) (Vector.replicate (4 : Nat) (0 : UInt64)))
theorem big_Over_q (k : Nat) (a : Vector UInt64 4) (b : Vector UInt64 4) : big_Over k a b = (bif decide ((Vector.toList b) = (Vector.toList (Vector.replicate (4 : Nat) (0 : UInt64)))) then (some ((Vector.replicate (4 : Nat) (0 : UInt64)), (Vector.replicate (4 : Nat) (0 : UInt64)), (2 : Int)))
    else (big_Over_h0 k (w64 ((((lenN (uV a)) : Nat) : Int) - (1 : Int))) a b (Vector.replicate (4 : Nat) (0 : UInt64)) (Vector.replicate (4 : Nat) (0 : UInt64)))) := by kernel_rfl
theorem big_Over_spec (a b : Vector UInt64 4) : ∃ k, big_Over k a b = some (ovQ a b, ovR a b, ovE b) := by
  show Ev (fun k => big_Over k a b) _
  refine Ev.same (fun k => big_Over_q k a b) ?_
  by_cases c0 : Vector.toList b = Vector.toList (Vector.replicate 4 0)
  · refine Ev.done0 fun k => ?_
    rw [bif_pos c0]
    rw [uV_zero] at c0
    rw [ovQ_eq, ovR_eq, ovE_eq]
    rw [c0, if_pos rfl, if_pos rfl, Nat.div_zero]
    rfl
  refine Ev.same (fun k => bif_neg c0) ?_
  rw [uV_zero] at c0
  have hB : 0 < uV b := by omega
  have hL : lenN (uV a) ≤ 256 := lenN_le.2 (by rw [two256]; exact uV_lt a)
  have hA : uV a < 2 ^ lenN (uV a) := lenN_le.1 (Nat.le_refl _)
  rw [w64_id (by omega) (by omega)]
  refine Ev.dwn (H := fun k i (s : Vector UInt64 4 × Vector UInt64 4) => big_Over_h0 k i a b s.1 s.2) (n := 256)
    (fun i s => (∀ j, j < 256 → (uV s.1).testBit j = (decide (i ≤ j) && (uV a / uV b).testBit j)) ∧ uV s.2 = uV a / 2 ^ i % uV b) ?_ ?_ (lenN (uV a)) (_, _) hL ?_
  · rintro i ⟨q, r⟩ hi ⟨hq, hr⟩ next
    simp only at hq hr next
    have hT : ∀ (r' : Vector UInt64 4), uV r' = uV a / 2 ^ i % uV b → (uV a / uV b).testBit i = true → Ev (fun k => big_Over_h0 k ((i : Int) - 1) a b (Vector.setIfInBounds q (i / 64) (List.getD (Vector.toList q) (i / 64) 0 ||| shl_u64 1 (i % 64))) r') (ovQ a b, ovR a b, ovE b) := by
      intro r' h1 h2
      refine next (Vector.setIfInBounds q (i / 64) (List.getD (Vector.toList q) (i / 64) 0 ||| shl_u64 1 (i % 64)), r') ⟨fun j hj => ?_, h1⟩
      show (uV (Vector.setIfInBounds q _ _)).testBit j = _
      rw [or_at _ _ _ hi hj, hq j hj]
      by_cases e : j = i
      · subst e; rw [decide_eq_true rfl, h2, Bool.or_true, decide_eq_true (Nat.le_refl _)]; rfl
      · rw [decide_eq_false e, Bool.or_false]
        congr 1
        rw [decide_eq_decide]; omega
    have hU : ∀ (r' : Vector UInt64 4), uV r' = uV a / 2 ^ i % uV b → (uV a / uV b).testBit i = false → Ev (fun k => big_Over_h0 k ((i : Int) - 1) a b q r') (ovQ a b, ovR a b, ovE b) := by
      intro r' h1 h2
      refine next (q, r') ⟨fun j hj => ?_, h1⟩
      show (uV q).testBit j = _
      rw [hq j hj]
      by_cases e : j = i
      · subst e; rw [h2, Bool.and_false, Bool.and_false]
      · congr 1
        rw [decide_eq_decide]; omega
    have ed : Int.tdiv (i : Int) 64 = ((i / 64 : Nat) : Int) := rfl
    have key : ∀ (x : Bool), x = (uV a).testBit i → ∀ Y, Y = uW (2 * uV r + x.toNat) → ∀ F : Nat → Option (Vector UInt64 4 × Vector UInt64 4 × Int), (∀ k, F (k + 1) = (bif eqb (Nat.testBit (uV r) 255) false then (bif bif false then true else !(subB Y b) then big_Over_h0 k ((i : Int) - 1) a b (Vector.setIfInBounds q (i / 64) (List.getD (Vector.toList q) (i / 64) 0 ||| shl_u64 1 (i % 64))) (subV Y b) else big_Over_h0 k ((i : Int) - 1) a b q Y) else big_Over_h0 k ((i : Int) - 1) a b (Vector.setIfInBounds q (i / 64) (List.getD (Vector.toList q) (i / 64) 0 ||| shl_u64 1 (i % 64))) (subV Y b))) → Ev F (ovQ a b, ovR a b, ovE b) := by
      intro x hx Y hY F hF
      obtain ⟨r', h1, h2⟩ := big_Over_step a b r i hB hr (fun v => fun k => big_Over_h0 k ((i : Int) - 1) a b (Vector.setIfInBounds q (i / 64) (List.getD (Vector.toList q) (i / 64) 0 ||| shl_u64 1 (i % 64))) v) (fun v => fun k => big_Over_h0 k ((i : Int) - 1) a b q v) x hx Y hY
      cases hb : (uV a / uV b).testBit i with
      | true =>
        rw [hb, if_pos rfl] at h2
        refine Ev.step (fun k => ?_) (hT r' h1 hb)
        rw [hF k, ← congrFun h2 k]
        cases eqb (Nat.testBit (uV r) 255) false <;> cases subB Y b <;> rfl
      | false =>
        rw [hb, if_neg (by decide)] at h2
        refine Ev.step (fun k => ?_) (hU r' h1 hb)
        rw [hF k, ← congrFun h2 k]
        cases eqb (Nat.testBit (uV r) 255) false <;> cases subB Y b <;> rfl
    cases hx : (uV a).testBit i with
    | true =>
      refine key true hx.symm (uW (2 * uV r + 1)) rfl _ fun k => ?_
      rw [big_Over_h0_q, bif_pos (by omega), if_pos (by omega), Int.toNat_natCast, hx, cond_true, or_one, ed, w64_nat (a := i / 64) (by omega), if_pos (by omega), amount i hi, Int.toNat_natCast, w64_id (by omega) (by omega)]
    | false =>
      refine key false hx.symm (uW (uV r * 2 ^ 1)) (by rw [Bool.toNat_false, Nat.add_zero, Nat.mul_comm]) _ fun k => ?_
      rw [big_Over_h0_q, bif_pos (by omega), if_pos (by omega), Int.toNat_natCast, hx, cond_false, ed, w64_nat (a := i / 64) (by omega), if_pos (by omega), amount i hi, Int.toNat_natCast, w64_id (by omega) (by omega)]
  · rintro ⟨q, r⟩ ⟨hq, hr⟩
    refine Ev.done fun k => ?_
    simp only at hq hr
    show big_Over_h0 (k + 1) _ a b q r = _
    rw [big_Over_h0_q, bif_neg (by omega)]
    rw [ovQ_eq, ovR_eq, ovE_eq]
    refine congrArg some (Prod.ext ?_ (Prod.ext ?_ ?_))
    · refine u_bit_ext fun j hj => ?_
      show (uV q).testBit j = (uV (uW _)).testBit j
      rw [hq j hj, uW_bit, decide_eq_true hj, decide_eq_true (Nat.zero_le _)]
    · show r = uW _
      rw [if_neg c0]
      apply uV_inj
      rw [hr, uV_uW, Nat.pow_zero, Nat.div_one]
      have := uV_lt b
      have := Nat.mod_lt (uV a) hB
      omega
    · show (0 : Int) = if uV b = 0 then 2 else 0
      rw [if_neg c0]
  · refine ⟨fun j hj => ?_, ?_⟩
    · show (uV (Vector.replicate 4 0)).testBit j = _
      rw [uV_rep, Nat.zero_testBit]
      by_cases c : lenN (uV a) ≤ j
      · have h1 : uV a / uV b ≤ uV a := Nat.div_le_self _ _
        have h2 : 2 ^ lenN (uV a) ≤ 2 ^ j := Nat.pow_le_pow_right (by decide) c
        rw [Nat.testBit_lt_two_pow (x := uV a / uV b) (i := j) (by omega), Bool.and_false]
      · rw [decide_eq_false c, Bool.false_and]
    · show uV (Vector.replicate 4 0) = _
      rw [uV_rep, Nat.div_eq_of_lt hA, Nat.zero_mod]

end
end Go.Proofs.Ytepcjobghbanmaa.M

namespace Go.Proofs.Ytepcjobghbanmaa.M
open Go
noncomputable section
set_option maxRecDepth 100000
set_option maxHeartbeats 0
noncomputable def big_Of_T : Tbl := []
noncomputable def big_Of_C : CfgW := mkC Try.prog noG big_Of_T 5 0 false
def big_Of_lv : Nat → List Nat := fun i => []
noncomputable abbrev big_Of_b : Code := Try.f28.body.getD .skip
noncomputable abbrev big_Of_r : List ResultVar := Try.f28.results.toList
def big_Of_hs : List Nat := []

def big_Of_enc (r : Vector UInt64 4) : CallOut := ⟨.pv (.arr .u64 4 r), [], true, []⟩
theorem big_Of_e (n : UInt64) (Q : CallOut → Prop) : evalFnP big_Of_C big_Of_lv big_Of_r big_Of_hs big_Of_b [.pv (.sc .u64 n)] [] Q =
    (Q (big_Of_enc (Vector.setIfInBounds (Vector.replicate (4 : Nat) (0 : UInt64)) (0 : Nat) n))) := by kernel_rfl
theorem big_Of_w (n : UInt64) {Q : CallOut → Prop} (h : Q (big_Of_enc (big_Of n))) : evalFnP big_Of_C big_Of_lv big_Of_r big_Of_hs big_Of_b [.pv (.sc .u64 n)] [] Q :=
  Eq.mpr (big_Of_e n Q) (have h := Eq.mp (congrArg (fun r => Q (big_Of_enc r)) (big_Of_q n)) h; h)
def big_Of_c : Ans
  | [.pv (.sc .u64 n)], [] => some (none, big_Of_enc (uW n.toNat))
  | _, _ => none
theorem big_Of_tok : TblOK Try.prog noG big_Of_T := .nil
theorem big_Of_ok : FnOK Try.prog noG 28 (unW big_Of_c) := by
  refine FnOK.ofC (T := big_Of_T) (nt := 5) (np := 0) (nf := false) (hs := big_Of_hs) (fn := Try.f28) (body := big_Of_b) big_Of_tok (by kernel_rfl) (by kernel_rfl) (by kernel_rfl) (by kernel_rfl) (c := big_Of_c) (lv := big_Of_lv) ?_
  intro xs mem p out h hp
  unfold big_Of_c at h
  split at h
  · cases h
    exact big_Of_w _ (congrArg big_Of_enc (big_Of_spec _))
  · cases h
end
end Go.Proofs.Ytepcjobghbanmaa.M

namespace Go.Proofs.Ytepcjobghbanmaa.M
open Go
noncomputable section
set_option maxRecDepth 100000
set_option maxHeartbeats 0
noncomputable def big_Right_T : Tbl := []
noncomputable def big_Right_C : CfgW := mkC Try.prog noG big_Right_T 59 0 false
def big_Right_lv : Nat → List Nat := fun i => bif Nat.beq i 1 then [1, 2, 4, 5, 6] else []
noncomputable abbrev big_Right_b : Code := Try.f26.body.getD .skip
noncomputable abbrev big_Right_r : List ResultVar := Try.f26.results.toList
def big_Right_hs : List Nat := []

def big_Right_enc (r : Vector UInt64 4) : CallOut := ⟨.pv (.arr .u64 4 r), [], true, []⟩
def big_Right_s1 (n : Int) (i : Int) (a : Vector UInt64 4) (t4 : Vector UInt64 4) (x_ : Vector UInt64 4) : St := ⟨[(1, .pv (.sc .i n)), (2, .p 60000 []), (4, .p 60001 []), (5, .p 60002 []), (6, .pv (.sc .i i))], [(60000, .box (.pv (.arr .u64 4 a))), (60001, .box (.pv (.arr .u64 4 t4))), (60002, .box (.pv (.arr .u64 4 x_)))]⟩
theorem big_Right_g1 (n : Int) (i : Int) (a : Vector UInt64 4) (t4 : Vector UInt64 4) (x_ : Vector UInt64 4) (Q : CallOut → Prop) : headRound big_Right_C big_Right_lv [true, true, true, false, true, false] big_Right_b (big_Right_s1 n i a t4 x_) (fnK big_Right_C big_Right_r big_Right_hs Q) =
    (((64 : Int) ≠ (0 : Int)) ∧ (condP (decide ((w64 (i + (w64 (Int.tdiv n (64 : Int))))) < (4 : Int))) (((64 : Int) ≠ (0 : Int)) ∧ ((((0 : Int) ≤ (w64 (i + (w64 (Int.tdiv n (64 : Int)))))) ∧ ((w64 (i + (w64 (Int.tdiv n (64 : Int))))) < (4 : Int))) ∧ (((64 : UInt64) ≠ (0 : UInt64)) ∧ ((((0 : Int) ≤ i) ∧ (i < (4 : Int))) ∧ (condP (eqb (decide ((w64 ((w64 (i + (w64 (Int.tdiv n (64 : Int))))) + (1 : Int))) < (4 : Int))) true) (((64 : Int) ≠ (0 : Int)) ∧ (condP (bif true then (!(decide ((Int.tmod n (64 : Int)) = (0 : Int)))) else false) ((((0 : Int) ≤ i) ∧ (i < (4 : Int))) ∧ ((((0 : Int) ≤ (w64 ((w64 (i + (w64 (Int.tdiv n (64 : Int))))) + (1 : Int)))) ∧ ((w64 ((w64 (i + (w64 (Int.tdiv n (64 : Int))))) + (1 : Int))) < (4 : Int))) ∧ (((64 : UInt64) ≠ (0 : UInt64)) ∧ ((((0 : Int) ≤ i) ∧ (i < (4 : Int))) ∧ (headP big_Right_C big_Right_lv [true, true, true, false, true, false] big_Right_b (big_Right_s1 n (w64 (i + (1 : Int))) a t4 (Vector.setIfInBounds (Vector.setIfInBounds x_ (Int.toNat i) (shr_u64 (List.getD (Vector.toList a) (Int.toNat (w64 (i + (w64 (Int.tdiv n (64 : Int)))))) (0 : UInt64)) (UInt64.toNat ((UInt64.ofInt n) % (64 : UInt64))))) (Int.toNat i) ((List.getD (Vector.toList (Vector.setIfInBounds x_ (Int.toNat i) (shr_u64 (List.getD (Vector.toList a) (Int.toNat (w64 (i + (w64 (Int.tdiv n (64 : Int)))))) (0 : UInt64)) (UInt64.toNat ((UInt64.ofInt n) % (64 : UInt64)))))) (Int.toNat i) (0 : UInt64)) ||| (shl_u64 (List.getD (Vector.toList a) (Int.toNat (w64 ((w64 (i + (w64 (Int.tdiv n (64 : Int))))) + (1 : Int)))) (0 : UInt64)) (UInt64.toNat ((64 : UInt64) - ((UInt64.ofInt n) % (64 : UInt64)))))))) (fnK big_Right_C big_Right_r big_Right_hs Q)))))) (headP big_Right_C big_Right_lv [true, true, true, false, true, false] big_Right_b (big_Right_s1 n (w64 (i + (1 : Int))) a t4 (Vector.setIfInBounds x_ (Int.toNat i) (shr_u64 (List.getD (Vector.toList a) (Int.toNat (w64 (i + (w64 (Int.tdiv n (64 : Int)))))) (0 : UInt64)) (UInt64.toNat ((UInt64.ofInt n) % (64 : UInt64)))))) (fnK big_Right_C big_Right_r big_Right_hs Q)))) (headP big_Right_C big_Right_lv [true, true, true, false, true, false] big_Right_b (big_Right_s1 n (w64 (i + (1 : Int))) a t4 (Vector.setIfInBounds x_ (Int.toNat i) (shr_u64 (List.getD (Vector.toList a) (Int.toNat (w64 (i + (w64 (Int.tdiv n (64 : Int)))))) (0 : UInt64)) (UInt64.toNat ((UInt64.ofInt n) % (64 : UInt64)))))) (fnK big_Right_C big_Right_r big_Right_hs Q))))))) (Q (big_Right_enc x_)))) := by kernel_rfl
theorem big_Right_k1 {r : Vector UInt64 4} {Q : CallOut → Prop} (hQ : Q (big_Right_enc r)) : ∀ k : Nat, (∀ (n : Int) (i : Int) (a : Vector UInt64 4) (t4 : Vector UInt64 4) (x_ : Vector UInt64 4), big_Right_h1 k n i a t4 x_ = some r → headP big_Right_C big_Right_lv [true, true, true, false, true, false] big_Right_b (big_Right_s1 n i a t4 x_) (fnK big_Right_C big_Right_r big_Right_hs Q))
  | 0 => fun _ _ _ _ _ h => no_ok h
  | k + 1 => fun n i a t4 x_ h => headP_step (Eq.mpr (big_Right_g1 n i a t4 x_ Q) (have h := (big_Right_h1_q k n i a t4 x_).symm.trans h; ⟨by decide +kernel, cond_ok h (fun h => ⟨by decide +kernel, ite_ok h fun hc0 h => ⟨by decide +kernel, ite_ok h fun hc1 h => cond_ok h (fun h => ⟨by decide +kernel, cond_ok h (fun h => ⟨hc1, ite_ok h fun hc2 h => ⟨by decide +kernel, ⟨hc1, (big_Right_k1 hQ k) _ _ _ _ _ h⟩⟩⟩) (fun h => (big_Right_k1 hQ k) _ _ _ _ _ h)⟩) (fun h => (big_Right_k1 hQ k) _ _ _ _ _ h)⟩⟩) (fun h => ret_ok (Q := Q) (e := big_Right_enc) h hQ)⟩))
theorem big_Right_e (a : Vector UInt64 4) (n : Int) (Q : CallOut → Prop) : evalFnP big_Right_C big_Right_lv big_Right_r big_Right_hs big_Right_b [.pv (.arr .u64 4 a), .pv (.sc .i n)] [] Q =
    (condP (decide (n ≤ (0 : Int))) (Q (big_Right_enc a)) (condP (decide ((256 : Int) ≤ n)) (Q (big_Right_enc (Vector.replicate (4 : Nat) (0 : UInt64)))) (headP big_Right_C big_Right_lv [true, true, true, false, true, false] big_Right_b (big_Right_s1 n (0 : Int) a (Vector.replicate (4 : Nat) (0 : UInt64)) (Vector.replicate (4 : Nat) (0 : UInt64))) (fnK big_Right_C big_Right_r big_Right_hs Q)))) := by kernel_rfl
theorem big_Right_w {k : Nat} (a : Vector UInt64 4) (n : Int) {r} {Q : CallOut → Prop} (h : big_Right k a n = some r) (hQ : Q (big_Right_enc r)) : evalFnP big_Right_C big_Right_lv big_Right_r big_Right_hs big_Right_b [.pv (.arr .u64 4 a), .pv (.sc .i n)] [] Q :=
  Eq.mpr (big_Right_e a n Q) (have h := (big_Right_q k a n).symm.trans h; cond_ok h (fun h => ret_ok (Q := Q) (e := big_Right_enc) h hQ) (fun h => cond_ok h (fun h => ret_ok (Q := Q) (e := big_Right_enc) h hQ) (fun h => (big_Right_k1 hQ _) _ _ _ _ _ h)))
def big_Right_c : Ans
  | [.pv (.arr .u64 4 a), .pv (.sc .i n)], [] => some (some (-9223372036854775808 ≤ n ∧ n < 9223372036854775808), big_Right_enc (uW (uV a / 2 ^ n.toNat)))
  | _, _ => none
theorem big_Right_tok : TblOK Try.prog noG big_Right_T := .nil
theorem big_Right_ok : FnOK Try.prog noG 26 (unW big_Right_c) := by
  refine FnOK.ofC (T := big_Right_T) (nt := 59) (np := 0) (nf := false) (hs := big_Right_hs) (fn := Try.f26) (body := big_Right_b) big_Right_tok (by kernel_rfl) (by kernel_rfl) (by kernel_rfl) (by kernel_rfl) (c := big_Right_c) (lv := big_Right_lv) ?_
  intro xs mem p out h hp
  unfold big_Right_c at h
  split at h
  · cases h
    obtain ⟨k, hk⟩ := big_Right_spec _ _ hp
    exact big_Right_w _ _ hk rfl
  · cases h
end
end Go.Proofs.Ytepcjobghbanmaa.M

namespace Go.Proofs.Ytepcjobghbanmaa.M
open Go
noncomputable section
set_option maxRecDepth 100000
set_option maxHeartbeats 0
noncomputable def big_Len_T : Tbl := [(61, [], bits_Len64_c)]
noncomputable def big_Len_C : CfgW := mkC Try.prog noG big_Len_T 19 0 false
def big_Len_lv : Nat → List Nat := fun i => bif Nat.beq i 0 then [1, 3] else []
noncomputable abbrev big_Len_b : Code := Try.f36.body.getD .skip
noncomputable abbrev big_Len_r : List ResultVar := Try.f36.results.toList
def big_Len_hs : List Nat := []

def big_Len_enc (r : Int) : CallOut := ⟨.pv (.sc .i r), [], true, []⟩
def big_Len_s0 (i : Int) (a : Vector UInt64 4) : St := ⟨[(1, .p 60000 []), (3, .pv (.sc .i i))], [(60000, .box (.pv (.arr .u64 4 a)))]⟩
theorem big_Len_g0 (i : Int) (a : Vector UInt64 4) (Q : CallOut → Prop) : headRound big_Len_C big_Len_lv [true, false, true, false] big_Len_b (big_Len_s0 i a) (fnK big_Len_C big_Len_r big_Len_hs Q) =
    (condP (decide ((0 : Int) ≤ i)) ((((0 : Int) ≤ i) ∧ (i < (4 : Int))) ∧ (condP (!(decide ((List.getD (Vector.toList a) (Int.toNat i) (0 : UInt64)) = (0 : UInt64)))) ((((0 : Int) ≤ i) ∧ (i < (4 : Int))) ∧ (Q (big_Len_enc (w64 ((w64 (i * (64 : Int))) + (((lenN (UInt64.toNat (List.getD (Vector.toList a) (Int.toNat i) (0 : UInt64)))) : Nat) : Int)))))) (headP big_Len_C big_Len_lv [true, false, true, false] big_Len_b (big_Len_s0 (w64 (i - (1 : Int))) a) (fnK big_Len_C big_Len_r big_Len_hs Q)))) (Q (big_Len_enc (0 : Int)))) := by kernel_rfl
theorem big_Len_k0 {r : Int} {Q : CallOut → Prop} (hQ : Q (big_Len_enc r)) : ∀ k : Nat, (∀ (i : Int) (a : Vector UInt64 4), big_Len_h0 k i a = some r → headP big_Len_C big_Len_lv [true, false, true, false] big_Len_b (big_Len_s0 i a) (fnK big_Len_C big_Len_r big_Len_hs Q))
  | 0 => fun _ _ h => no_ok h
  | k + 1 => fun i a h => headP_step (Eq.mpr (big_Len_g0 i a Q) (have h := (big_Len_h0_q k i a).symm.trans h; cond_ok h (fun h => ite_ok h fun hc0 h => cond_ok h (fun h => ⟨hc0, ret_ok (Q := Q) (e := big_Len_enc) h hQ⟩) (fun h => (big_Len_k0 hQ k) _ _ h)) (fun h => ret_ok (Q := Q) (e := big_Len_enc) h hQ)))
theorem big_Len_e (a : Vector UInt64 4) (Q : CallOut → Prop) : evalFnP big_Len_C big_Len_lv big_Len_r big_Len_hs big_Len_b [.pv (.arr .u64 4 a)] [] Q =
    (headP big_Len_C big_Len_lv [true, false, true, false] big_Len_b (big_Len_s0 (3 : Int) a) (fnK big_Len_C big_Len_r big_Len_hs Q)) := by kernel_rfl
theorem big_Len_w {k : Nat} (a : Vector UInt64 4) {r} {Q : CallOut → Prop} (h : big_Len k a = some r) (hQ : Q (big_Len_enc r)) : evalFnP big_Len_C big_Len_lv big_Len_r big_Len_hs big_Len_b [.pv (.arr .u64 4 a)] [] Q :=
  Eq.mpr (big_Len_e a Q) (have h := (big_Len_q k a).symm.trans h; (big_Len_k0 hQ _) _ _ h)
def big_Len_c : Ans
  | [.pv (.arr .u64 4 a)], [] => some (none, big_Len_enc ((((lenN (uV a)) : Nat) : Int)))
  | _, _ => none
theorem big_Len_tok : TblOK Try.prog noG big_Len_T := .cons ⟨by kernel_rfl, bits_Len64_ok⟩ (.nil)
theorem big_Len_ok : FnOK Try.prog noG 36 (unW big_Len_c) := by
  refine FnOK.ofC (T := big_Len_T) (nt := 19) (np := 0) (nf := false) (hs := big_Len_hs) (fn := Try.f36) (body := big_Len_b) big_Len_tok (by kernel_rfl) (by kernel_rfl) (by kernel_rfl) (by kernel_rfl) (c := big_Len_c) (lv := big_Len_lv) ?_
  intro xs mem p out h hp
  unfold big_Len_c at h
  split at h
  · cases h
    obtain ⟨k, hk⟩ := big_Len_spec _
    exact big_Len_w _ hk rfl
  · cases h
end
end Go.Proofs.Ytepcjobghbanmaa.M

namespace Go.Proofs.Ytepcjobghbanmaa.M
open Go
noncomputable section
set_option maxRecDepth 100000
set_option maxHeartbeats 0
noncomputable def big_Left_T : Tbl := []
noncomputable def big_Left_C : CfgW := mkC Try.prog noG big_Left_T 57 0 false
def big_Left_lv : Nat → List Nat := fun i => bif Nat.beq i 1 then [1, 2, 4, 5, 6] else []
noncomputable abbrev big_Left_b : Code := Try.f24.body.getD .skip
noncomputable abbrev big_Left_r : List ResultVar := Try.f24.results.toList
def big_Left_hs : List Nat := []

def big_Left_enc (r : Vector UInt64 4) : CallOut := ⟨.pv (.arr .u64 4 r), [], true, []⟩
def big_Left_s1 (n : Int) (i : Int) (a : Vector UInt64 4) (t4 : Vector UInt64 4) (x_ : Vector UInt64 4) : St := ⟨[(1, .pv (.sc .i n)), (2, .p 60000 []), (4, .p 60001 []), (5, .p 60002 []), (6, .pv (.sc .i i))], [(60000, .box (.pv (.arr .u64 4 a))), (60001, .box (.pv (.arr .u64 4 t4))), (60002, .box (.pv (.arr .u64 4 x_)))]⟩
theorem big_Left_g1 (n : Int) (i : Int) (a : Vector UInt64 4) (t4 : Vector UInt64 4) (x_ : Vector UInt64 4) (Q : CallOut → Prop) : headRound big_Left_C big_Left_lv [true, true, true, false, true, false] big_Left_b (big_Left_s1 n i a t4 x_) (fnK big_Left_C big_Left_r big_Left_hs Q) =
    (((64 : Int) ≠ (0 : Int)) ∧ (condP (decide ((w64 (Int.tdiv n (64 : Int))) ≤ i)) (((64 : Int) ≠ (0 : Int)) ∧ ((((0 : Int) ≤ (w64 (i - (w64 (Int.tdiv n (64 : Int)))))) ∧ ((w64 (i - (w64 (Int.tdiv n (64 : Int))))) < (4 : Int))) ∧ (((64 : UInt64) ≠ (0 : UInt64)) ∧ ((((0 : Int) ≤ i) ∧ (i < (4 : Int))) ∧ (condP (eqb (decide ((0 : Int) < (w64 (i - (w64 (Int.tdiv n (64 : Int))))))) true) (((64 : Int) ≠ (0 : Int)) ∧ (condP (bif true then (!(decide ((Int.tmod n (64 : Int)) = (0 : Int)))) else false) ((((0 : Int) ≤ i) ∧ (i < (4 : Int))) ∧ ((((0 : Int) ≤ (w64 ((w64 (i - (w64 (Int.tdiv n (64 : Int))))) - (1 : Int)))) ∧ ((w64 ((w64 (i - (w64 (Int.tdiv n (64 : Int))))) - (1 : Int))) < (4 : Int))) ∧ (((64 : UInt64) ≠ (0 : UInt64)) ∧ ((((0 : Int) ≤ i) ∧ (i < (4 : Int))) ∧ (headP big_Left_C big_Left_lv [true, true, true, false, true, false] big_Left_b (big_Left_s1 n (w64 (i - (1 : Int))) a t4 (Vector.setIfInBounds (Vector.setIfInBounds x_ (Int.toNat i) (shl_u64 (List.getD (Vector.toList a) (Int.toNat (w64 (i - (w64 (Int.tdiv n (64 : Int)))))) (0 : UInt64)) (UInt64.toNat ((UInt64.ofInt n) % (64 : UInt64))))) (Int.toNat i) ((List.getD (Vector.toList (Vector.setIfInBounds x_ (Int.toNat i) (shl_u64 (List.getD (Vector.toList a) (Int.toNat (w64 (i - (w64 (Int.tdiv n (64 : Int)))))) (0 : UInt64)) (UInt64.toNat ((UInt64.ofInt n) % (64 : UInt64)))))) (Int.toNat i) (0 : UInt64)) ||| (shr_u64 (List.getD (Vector.toList a) (Int.toNat (w64 ((w64 (i - (w64 (Int.tdiv n (64 : Int))))) - (1 : Int)))) (0 : UInt64)) (UInt64.toNat ((64 : UInt64) - ((UInt64.ofInt n) % (64 : UInt64)))))))) (fnK big_Left_C big_Left_r big_Left_hs Q)))))) (headP big_Left_C big_Left_lv [true, true, true, false, true, false] big_Left_b (big_Left_s1 n (w64 (i - (1 : Int))) a t4 (Vector.setIfInBounds x_ (Int.toNat i) (shl_u64 (List.getD (Vector.toList a) (Int.toNat (w64 (i - (w64 (Int.tdiv n (64 : Int)))))) (0 : UInt64)) (UInt64.toNat ((UInt64.ofInt n) % (64 : UInt64)))))) (fnK big_Left_C big_Left_r big_Left_hs Q)))) (headP big_Left_C big_Left_lv [true, true, true, false, true, false] big_Left_b (big_Left_s1 n (w64 (i - (1 : Int))) a t4 (Vector.setIfInBounds x_ (Int.toNat i) (shl_u64 (List.getD (Vector.toList a) (Int.toNat (w64 (i - (w64 (Int.tdiv n (64 : Int)))))) (0 : UInt64)) (UInt64.toNat ((UInt64.ofInt n) % (64 : UInt64)))))) (fnK big_Left_C big_Left_r big_Left_hs Q))))))) (Q (big_Left_enc x_)))) := by kernel_rfl
theorem big_Left_k1 {r : Vector UInt64 4} {Q : CallOut → Prop} (hQ : Q (big_Left_enc r)) : ∀ k : Nat, (∀ (n : Int) (i : Int) (a : Vector UInt64 4) (t4 : Vector UInt64 4) (x_ : Vector UInt64 4), big_Left_h1 k n i a t4 x_ = some r → headP big_Left_C big_Left_lv [true, true, true, false, true, false] big_Left_b (big_Left_s1 n i a t4 x_) (fnK big_Left_C big_Left_r big_Left_hs Q))
  | 0 => fun _ _ _ _ _ h => no_ok h
  | k + 1 => fun n i a t4 x_ h => headP_step (Eq.mpr (big_Left_g1 n i a t4 x_ Q) (have h := (big_Left_h1_q k n i a t4 x_).symm.trans h; ⟨by decide +kernel, cond_ok h (fun h => ⟨by decide +kernel, ite_ok h fun hc0 h => ⟨by decide +kernel, ite_ok h fun hc1 h => cond_ok h (fun h => ⟨by decide +kernel, cond_ok h (fun h => ⟨hc1, ite_ok h fun hc2 h => ⟨by decide +kernel, ⟨hc1, (big_Left_k1 hQ k) _ _ _ _ _ h⟩⟩⟩) (fun h => (big_Left_k1 hQ k) _ _ _ _ _ h)⟩) (fun h => (big_Left_k1 hQ k) _ _ _ _ _ h)⟩⟩) (fun h => ret_ok (Q := Q) (e := big_Left_enc) h hQ)⟩))
theorem big_Left_e (a : Vector UInt64 4) (n : Int) (Q : CallOut → Prop) : evalFnP big_Left_C big_Left_lv big_Left_r big_Left_hs big_Left_b [.pv (.arr .u64 4 a), .pv (.sc .i n)] [] Q =
    (condP (decide (n ≤ (0 : Int))) (Q (big_Left_enc a)) (condP (decide ((256 : Int) ≤ n)) (Q (big_Left_enc (Vector.replicate (4 : Nat) (0 : UInt64)))) (headP big_Left_C big_Left_lv [true, true, true, false, true, false] big_Left_b (big_Left_s1 n (3 : Int) a (Vector.replicate (4 : Nat) (0 : UInt64)) (Vector.replicate (4 : Nat) (0 : UInt64))) (fnK big_Left_C big_Left_r big_Left_hs Q)))) := by kernel_rfl
theorem big_Left_w {k : Nat} (a : Vector UInt64 4) (n : Int) {r} {Q : CallOut → Prop} (h : big_Left k a n = some r) (hQ : Q (big_Left_enc r)) : evalFnP big_Left_C big_Left_lv big_Left_r big_Left_hs big_Left_b [.pv (.arr .u64 4 a), .pv (.sc .i n)] [] Q :=
  Eq.mpr (big_Left_e a n Q) (have h := (big_Left_q k a n).symm.trans h; cond_ok h (fun h => ret_ok (Q := Q) (e := big_Left_enc) h hQ) (fun h => cond_ok h (fun h => ret_ok (Q := Q) (e := big_Left_enc) h hQ) (fun h => (big_Left_k1 hQ _) _ _ _ _ _ h)))
def big_Left_c : Ans
  | [.pv (.arr .u64 4 a), .pv (.sc .i n)], [] => some (some (-9223372036854775808 ≤ n ∧ n < 9223372036854775808), big_Left_enc (uW (uV a * 2 ^ n.toNat)))
  | _, _ => none
theorem big_Left_tok : TblOK Try.prog noG big_Left_T := .nil
theorem big_Left_ok : FnOK Try.prog noG 24 (unW big_Left_c) := by
  refine FnOK.ofC (T := big_Left_T) (nt := 57) (np := 0) (nf := false) (hs := big_Left_hs) (fn := Try.f24) (body := big_Left_b) big_Left_tok (by kernel_rfl) (by kernel_rfl) (by kernel_rfl) (by kernel_rfl) (c := big_Left_c) (lv := big_Left_lv) ?_
  intro xs mem p out h hp
  unfold big_Left_c at h
  split at h
  · cases h
    obtain ⟨k, hk⟩ := big_Left_spec _ _ hp
    exact big_Left_w _ _ hk rfl
  · cases h
end
end Go.Proofs.Ytepcjobghbanmaa.M

namespace Go.Proofs.Ytepcjobghbanmaa.M
open Go
noncomputable section
set_option maxRecDepth 100000
set_option maxHeartbeats 0
noncomputable def big_Mul_T : Tbl := [(62, [], bits_Mul64_c)]
noncomputable def big_Mul_C : CfgW := mkC Try.prog noG big_Mul_T 37 0 false
def big_Mul_lv : Nat → List Nat := fun i => bif Nat.beq i 0 then [1, 2, 4, 6, 11] else []
noncomputable abbrev big_Mul_b : Code := Try.f38.body.getD .skip
noncomputable abbrev big_Mul_r : List ResultVar := Try.f38.results.toList
def big_Mul_hs : List Nat := []

def big_Mul_enc (r : Vector UInt64 4 × UInt64) : CallOut := ⟨.tup [.pv (.arr .u64 4 r.1), .pv (.sc .u64 r.2)], [], true, []⟩
def big_Mul_s0 (n : UInt64) (carry : UInt64) (t11 : Int) (a : Vector UInt64 4) (t4 : Vector UInt64 4) : St := ⟨[(1, .pv (.sc .u64 n)), (2, .p 60000 []), (4, .p 60001 []), (6, .pv (.sc .u64 carry)), (11, .pv (.sc .i t11))], [(60000, .box (.pv (.arr .u64 4 a))), (60001, .box (.pv (.arr .u64 4 t4)))]⟩
theorem big_Mul_g0 (n : UInt64) (carry : UInt64) (t11 : Int) (a : Vector UInt64 4) (t4 : Vector UInt64 4) (Q : CallOut → Prop) : headRound big_Mul_C big_Mul_lv [true, true, false, true, false] big_Mul_b (big_Mul_s0 n carry t11 a t4) (fnK big_Mul_C big_Mul_r big_Mul_hs Q) =
    (condP (decide (t11 < (4 : Int))) ((((0 : Int) ≤ t11) ∧ (t11 < (4 : Int))) ∧ (((0 : Nat) ≤ (1 : Nat)) ∧ ((((0 : Int) ≤ t11) ∧ (t11 < (4 : Int))) ∧ (headP big_Mul_C big_Mul_lv [true, true, false, true, false] big_Mul_b (big_Mul_s0 n ((mulHi (List.getD (Vector.toList a) (Int.toNat t11) (0 : UInt64)) n) + (addHi (mulLo (List.getD (Vector.toList a) (Int.toNat t11) (0 : UInt64)) n) carry (0 : UInt64))) (w64 (t11 + (1 : Int))) (Vector.setIfInBounds a (Int.toNat t11) (((mulLo (List.getD (Vector.toList a) (Int.toNat t11) (0 : UInt64)) n) + carry) + (0 : UInt64))) t4) (fnK big_Mul_C big_Mul_r big_Mul_hs Q))))) (Q (big_Mul_enc (a, carry)))) := by kernel_rfl
theorem big_Mul_k0 {r : Vector UInt64 4 × UInt64} {Q : CallOut → Prop} (hQ : Q (big_Mul_enc r)) : ∀ k : Nat, (∀ (n : UInt64) (carry : UInt64) (t11 : Int) (a : Vector UInt64 4) (t4 : Vector UInt64 4), big_Mul_h0 k n carry t11 a t4 = some r → headP big_Mul_C big_Mul_lv [true, true, false, true, false] big_Mul_b (big_Mul_s0 n carry t11 a t4) (fnK big_Mul_C big_Mul_r big_Mul_hs Q))
  | 0 => fun _ _ _ _ _ h => no_ok h
  | k + 1 => fun n carry t11 a t4 h => headP_step (Eq.mpr (big_Mul_g0 n carry t11 a t4 Q) (have h := (big_Mul_h0_q k n carry t11 a t4).symm.trans h; cond_ok h (fun h => ite_ok h fun hc0 h => ⟨by decide +kernel, ⟨hc0, (big_Mul_k0 hQ k) _ _ _ _ _ h⟩⟩) (fun h => ret_ok (Q := Q) (e := big_Mul_enc) h hQ)))
theorem big_Mul_e (a : Vector UInt64 4) (n : UInt64) (Q : CallOut → Prop) : evalFnP big_Mul_C big_Mul_lv big_Mul_r big_Mul_hs big_Mul_b [.pv (.arr .u64 4 a), .pv (.sc .u64 n)] [] Q =
    (headP big_Mul_C big_Mul_lv [true, true, false, true, false] big_Mul_b (big_Mul_s0 n (0 : UInt64) (0 : Int) a (Vector.replicate (4 : Nat) (0 : UInt64))) (fnK big_Mul_C big_Mul_r big_Mul_hs Q)) := by kernel_rfl
theorem big_Mul_w {k : Nat} (a : Vector UInt64 4) (n : UInt64) {r} {Q : CallOut → Prop} (h : big_Mul k a n = some r) (hQ : Q (big_Mul_enc r)) : evalFnP big_Mul_C big_Mul_lv big_Mul_r big_Mul_hs big_Mul_b [.pv (.arr .u64 4 a), .pv (.sc .u64 n)] [] Q :=
  Eq.mpr (big_Mul_e a n Q) (have h := (big_Mul_q k a n).symm.trans h; (big_Mul_k0 hQ _) _ _ _ _ _ h)
def big_Mul_c : Ans
  | [.pv (.arr .u64 4 a), .pv (.sc .u64 n)], [] => some (none, big_Mul_enc ((uW (uV a * n.toNat), mulC a n)))
  | _, _ => none
theorem big_Mul_tok : TblOK Try.prog noG big_Mul_T := .cons ⟨by kernel_rfl, bits_Mul64_ok⟩ (.nil)
theorem big_Mul_ok : FnOK Try.prog noG 38 (unW big_Mul_c) := by
  refine FnOK.ofC (T := big_Mul_T) (nt := 37) (np := 0) (nf := false) (hs := big_Mul_hs) (fn := Try.f38) (body := big_Mul_b) big_Mul_tok (by kernel_rfl) (by kernel_rfl) (by kernel_rfl) (by kernel_rfl) (c := big_Mul_c) (lv := big_Mul_lv) ?_
  intro xs mem p out h hp
  unfold big_Mul_c at h
  split at h
  · cases h
    obtain ⟨k, hk⟩ := big_Mul_spec _ _
    exact big_Mul_w _ _ hk rfl
  · cases h
end
end Go.Proofs.Ytepcjobghbanmaa.M

namespace Go.Proofs.Ytepcjobghbanmaa.M
open Go
noncomputable section
set_option maxRecDepth 100000
set_option maxHeartbeats 0
noncomputable def big_Div_T : Tbl := [(56, [], bits_Div64_c)]
noncomputable def big_Div_C : CfgW := mkC Try.prog noG big_Div_T 29 0 false
def big_Div_lv : Nat → List Nat := fun i => bif Nat.beq i 0 then [1, 2, 4, 7, 8] else []
noncomputable abbrev big_Div_b : Code := Try.f17.body.getD .skip
noncomputable abbrev big_Div_r : List ResultVar := Try.f17.results.toList
def big_Div_hs : List Nat := []

def big_Div_enc (r : Vector UInt64 4 × UInt64 × Int) : CallOut := ⟨.tup [.pv (.arr .u64 4 r.1), .pv (.sc .u64 r.2.1), .pv (.sc .i r.2.2)], [], true, []⟩
def big_Div_s0 (n : UInt64) (left : UInt64) (i : Int) (a : Vector UInt64 4) (t4 : Vector UInt64 4) : St := ⟨[(1, .pv (.sc .u64 n)), (2, .p 60000 []), (4, .p 60001 []), (7, .pv (.sc .u64 left)), (8, .pv (.sc .i i))], [(60000, .box (.pv (.arr .u64 4 a))), (60001, .box (.pv (.arr .u64 4 t4)))]⟩
theorem big_Div_g0 (n : UInt64) (left : UInt64) (i : Int) (a : Vector UInt64 4) (t4 : Vector UInt64 4) (Q : CallOut → Prop) : headRound big_Div_C big_Div_lv [true, true, true, false, true, false] big_Div_b (big_Div_s0 n left i a t4) (fnK big_Div_C big_Div_r big_Div_hs Q) =
    (condP (decide ((0 : Int) ≤ i)) ((((0 : Int) ≤ i) ∧ (i < (4 : Int))) ∧ (((UInt64.toNat left) < (UInt64.toNat n)) ∧ ((((0 : Int) ≤ i) ∧ (i < (4 : Int))) ∧ (headP big_Div_C big_Div_lv [true, true, true, false, true, false] big_Div_b (big_Div_s0 n (UInt64.ofNat ((((UInt64.toNat left) * (18446744073709551616 : Nat)) + (UInt64.toNat (List.getD (Vector.toList a) (Int.toNat i) (0 : UInt64)))) % (UInt64.toNat n))) (w64 (i - (1 : Int))) (Vector.setIfInBounds a (Int.toNat i) (UInt64.ofNat ((((UInt64.toNat left) * (18446744073709551616 : Nat)) + (UInt64.toNat (List.getD (Vector.toList a) (Int.toNat i) (0 : UInt64)))) / (UInt64.toNat n)))) t4) (fnK big_Div_C big_Div_r big_Div_hs Q))))) (Q (big_Div_enc (a, left, (0 : Int))))) := by kernel_rfl
theorem big_Div_k0 {r : Vector UInt64 4 × UInt64 × Int} {Q : CallOut → Prop} (hQ : Q (big_Div_enc r)) : ∀ k : Nat, (∀ (n : UInt64) (left : UInt64) (i : Int) (a : Vector UInt64 4) (t4 : Vector UInt64 4), big_Div_h0 k n left i a t4 = some r → headP big_Div_C big_Div_lv [true, true, true, false, true, false] big_Div_b (big_Div_s0 n left i a t4) (fnK big_Div_C big_Div_r big_Div_hs Q))
  | 0 => fun _ _ _ _ _ h => no_ok h
  | k + 1 => fun n left i a t4 h => headP_step (Eq.mpr (big_Div_g0 n left i a t4 Q) (have h := (big_Div_h0_q k n left i a t4).symm.trans h; cond_ok h (fun h => ite_ok h fun hc0 h => ite_ok h fun hc1 h => ⟨hc0, (big_Div_k0 hQ k) _ _ _ _ _ h⟩) (fun h => ret_ok (Q := Q) (e := big_Div_enc) h hQ)))
theorem big_Div_e (a : Vector UInt64 4) (n : UInt64) (Q : CallOut → Prop) : evalFnP big_Div_C big_Div_lv big_Div_r big_Div_hs big_Div_b [.pv (.arr .u64 4 a), .pv (.sc .u64 n)] [] Q =
    (condP (decide (n = (0 : UInt64))) (Q (big_Div_enc ((Vector.replicate (4 : Nat) (0 : UInt64)), (0 : UInt64), (2 : Int)))) (headP big_Div_C big_Div_lv [true, true, true, false, true, false] big_Div_b (big_Div_s0 n (0 : UInt64) (3 : Int) a (Vector.replicate (4 : Nat) (0 : UInt64))) (fnK big_Div_C big_Div_r big_Div_hs Q))) := by kernel_rfl
theorem big_Div_w {k : Nat} (a : Vector UInt64 4) (n : UInt64) {r} {Q : CallOut → Prop} (h : big_Div k a n = some r) (hQ : Q (big_Div_enc r)) : evalFnP big_Div_C big_Div_lv big_Div_r big_Div_hs big_Div_b [.pv (.arr .u64 4 a), .pv (.sc .u64 n)] [] Q :=
  Eq.mpr (big_Div_e a n Q) (have h := (big_Div_q k a n).symm.trans h; cond_ok h (fun h => ret_ok (Q := Q) (e := big_Div_enc) h hQ) (fun h => (big_Div_k0 hQ _) _ _ _ _ _ h))
def big_Div_c : Ans
  | [.pv (.arr .u64 4 a), .pv (.sc .u64 n)], [] => some (none, big_Div_enc ((uW (uV a / n.toNat), divR a n, divE n)))
  | _, _ => none
theorem big_Div_tok : TblOK Try.prog noG big_Div_T := .cons ⟨by kernel_rfl, bits_Div64_ok⟩ (.nil)
theorem big_Div_ok : FnOK Try.prog noG 17 (unW big_Div_c) := by
  refine FnOK.ofC (T := big_Div_T) (nt := 29) (np := 0) (nf := false) (hs := big_Div_hs) (fn := Try.f17) (body := big_Div_b) big_Div_tok (by kernel_rfl) (by kernel_rfl) (by kernel_rfl) (by kernel_rfl) (c := big_Div_c) (lv := big_Div_lv) ?_
  intro xs mem p out h hp
  unfold big_Div_c at h
  split at h
  · cases h
    obtain ⟨k, hk⟩ := big_Div_spec _ _
    exact big_Div_w _ _ hk rfl
  · cases h
end
end Go.Proofs.Ytepcjobghbanmaa.M

namespace Go.Proofs.Ytepcjobghbanmaa.M
open Go
noncomputable section
set_option maxRecDepth 100000
set_option maxHeartbeats 0
noncomputable def big_Sub_T : Tbl := []
noncomputable def big_Sub_C : CfgW := mkC Try.prog noG big_Sub_T 28 0 false
def big_Sub_lv : Nat → List Nat := fun i => bif Nat.beq i 0 then [2, 3, 4, 6, 8] else []
noncomputable abbrev big_Sub_b : Code := Try.f22.body.getD .skip
noncomputable abbrev big_Sub_r : List ResultVar := Try.f22.results.toList
def big_Sub_hs : List Nat := []

def big_Sub_enc (r : Vector UInt64 4 × Bool) : CallOut := ⟨.tup [.pv (.arr .u64 4 r.1), .pv (.sc .b r.2)], [], true, []⟩
def big_Sub_s0 (c : UInt64) (t8 : Int) (a : Vector UInt64 4) (b : Vector UInt64 4) (t4 : Vector UInt64 4) : St := ⟨[(2, .p 60000 []), (3, .p 60001 []), (4, .p 60002 []), (6, .pv (.sc .u64 c)), (8, .pv (.sc .i t8))], [(60000, .box (.pv (.arr .u64 4 a))), (60001, .box (.pv (.arr .u64 4 b))), (60002, .box (.pv (.arr .u64 4 t4)))]⟩
theorem big_Sub_g0 (c : UInt64) (t8 : Int) (a : Vector UInt64 4) (b : Vector UInt64 4) (t4 : Vector UInt64 4) (Q : CallOut → Prop) : headRound big_Sub_C big_Sub_lv [true, true, false, true, false] big_Sub_b (big_Sub_s0 c t8 a b t4) (fnK big_Sub_C big_Sub_r big_Sub_hs Q) =
    (condP (decide (t8 < (4 : Int))) ((((0 : Int) ≤ t8) ∧ (t8 < (4 : Int))) ∧ ((((0 : Int) ≤ t8) ∧ (t8 < (4 : Int))) ∧ (((UInt64.toNat c) ≤ (1 : Nat)) ∧ ((((0 : Int) ≤ t8) ∧ (t8 < (4 : Int))) ∧ (headP big_Sub_C big_Sub_lv [true, true, false, true, false] big_Sub_b (big_Sub_s0 (subHi (List.getD (Vector.toList a) (Int.toNat t8) (0 : UInt64)) (List.getD (Vector.toList b) (Int.toNat t8) (0 : UInt64)) c) (w64 (t8 + (1 : Int))) (Vector.setIfInBounds a (Int.toNat t8) (((List.getD (Vector.toList a) (Int.toNat t8) (0 : UInt64)) - (List.getD (Vector.toList b) (Int.toNat t8) (0 : UInt64))) - c)) b t4) (fnK big_Sub_C big_Sub_r big_Sub_hs Q)))))) (Q (big_Sub_enc (a, (!(decide (c = (0 : UInt64)))))))) := by kernel_rfl
theorem big_Sub_k0 {r : Vector UInt64 4 × Bool} {Q : CallOut → Prop} (hQ : Q (big_Sub_enc r)) : ∀ k : Nat, (∀ (c : UInt64) (t8 : Int) (a : Vector UInt64 4) (b : Vector UInt64 4) (t4 : Vector UInt64 4), big_Sub_h0 k c t8 a b t4 = some r → headP big_Sub_C big_Sub_lv [true, true, false, true, false] big_Sub_b (big_Sub_s0 c t8 a b t4) (fnK big_Sub_C big_Sub_r big_Sub_hs Q))
  | 0 => fun _ _ _ _ _ h => no_ok h
  | k + 1 => fun c t8 a b t4 h => headP_step (Eq.mpr (big_Sub_g0 c t8 a b t4 Q) (have h := (big_Sub_h0_q k c t8 a b t4).symm.trans h; cond_ok h (fun h => ite_ok h fun hc0 h => ⟨hc0, ite_ok h fun hc1 h => ⟨hc0, (big_Sub_k0 hQ k) _ _ _ _ _ h⟩⟩) (fun h => ret_ok (Q := Q) (e := big_Sub_enc) h hQ)))
theorem big_Sub_e (a : Vector UInt64 4) (b : Vector UInt64 4) (Q : CallOut → Prop) : evalFnP big_Sub_C big_Sub_lv big_Sub_r big_Sub_hs big_Sub_b [.pv (.arr .u64 4 a), .pv (.arr .u64 4 b)] [] Q =
    (headP big_Sub_C big_Sub_lv [true, true, false, true, false] big_Sub_b (big_Sub_s0 (0 : UInt64) (0 : Int) a b (Vector.replicate (4 : Nat) (0 : UInt64))) (fnK big_Sub_C big_Sub_r big_Sub_hs Q)) := by kernel_rfl
theorem big_Sub_w {k : Nat} (a : Vector UInt64 4) (b : Vector UInt64 4) {r} {Q : CallOut → Prop} (h : big_Sub k a b = some r) (hQ : Q (big_Sub_enc r)) : evalFnP big_Sub_C big_Sub_lv big_Sub_r big_Sub_hs big_Sub_b [.pv (.arr .u64 4 a), .pv (.arr .u64 4 b)] [] Q :=
  Eq.mpr (big_Sub_e a b Q) (have h := (big_Sub_q k a b).symm.trans h; (big_Sub_k0 hQ _) _ _ _ _ _ h)
def big_Sub_c : Ans
  | [.pv (.arr .u64 4 a), .pv (.arr .u64 4 b)], [] => some (none, big_Sub_enc ((subV a b, subB a b)))
  | _, _ => none
theorem big_Sub_tok : TblOK Try.prog noG big_Sub_T := .nil
theorem big_Sub_ok : FnOK Try.prog noG 22 (unW big_Sub_c) := by
  refine FnOK.ofC (T := big_Sub_T) (nt := 28) (np := 0) (nf := false) (hs := big_Sub_hs) (fn := Try.f22) (body := big_Sub_b) big_Sub_tok (by kernel_rfl) (by kernel_rfl) (by kernel_rfl) (by kernel_rfl) (c := big_Sub_c) (lv := big_Sub_lv) ?_
  intro xs mem p out h hp
  unfold big_Sub_c at h
  split at h
  · cases h
    obtain ⟨k, hk⟩ := big_Sub_spec _ _
    exact big_Sub_w _ _ hk rfl
  · cases h
end
end Go.Proofs.Ytepcjobghbanmaa.M

namespace Go.Proofs.Ytepcjobghbanmaa.M
open Go
noncomputable section
set_option maxRecDepth 100000
set_option maxHeartbeats 0
noncomputable def big_Less_T : Tbl := [(22, [], big_Sub_c)]
noncomputable def big_Less_C : CfgW := mkC Try.prog noG big_Less_T 14 0 false
def big_Less_lv : Nat → List Nat := fun i => []
noncomputable abbrev big_Less_b : Code := Try.f34.body.getD .skip
noncomputable abbrev big_Less_r : List ResultVar := Try.f34.results.toList
def big_Less_hs : List Nat := []

def big_Less_enc (r : Bool) : CallOut := ⟨.pv (.sc .b r), [], true, []⟩
theorem big_Less_e (a : Vector UInt64 4) (b : Vector UInt64 4) (Q : CallOut → Prop) : evalFnP big_Less_C big_Less_lv big_Less_r big_Less_hs big_Less_b [.pv (.arr .u64 4 a), .pv (.arr .u64 4 b)] [] Q =
    (Q (big_Less_enc (subB a b))) := by kernel_rfl
theorem big_Less_w (a : Vector UInt64 4) (b : Vector UInt64 4) {Q : CallOut → Prop} (h : Q (big_Less_enc (big_Less a b))) : evalFnP big_Less_C big_Less_lv big_Less_r big_Less_hs big_Less_b [.pv (.arr .u64 4 a), .pv (.arr .u64 4 b)] [] Q :=
  Eq.mpr (big_Less_e a b Q) (have h := Eq.mp (congrArg (fun r => Q (big_Less_enc r)) (big_Less_q a b)) h; h)
def big_Less_c : Ans
  | [.pv (.arr .u64 4 a), .pv (.arr .u64 4 b)], [] => some (none, big_Less_enc (subB a b))
  | _, _ => none
theorem big_Less_tok : TblOK Try.prog noG big_Less_T := .cons ⟨by kernel_rfl, big_Sub_ok⟩ (.nil)
theorem big_Less_ok : FnOK Try.prog noG 34 (unW big_Less_c) := by
  refine FnOK.ofC (T := big_Less_T) (nt := 14) (np := 0) (nf := false) (hs := big_Less_hs) (fn := Try.f34) (body := big_Less_b) big_Less_tok (by kernel_rfl) (by kernel_rfl) (by kernel_rfl) (by kernel_rfl) (c := big_Less_c) (lv := big_Less_lv) ?_
  intro xs mem p out h hp
  unfold big_Less_c at h
  split at h
  · cases h
    exact big_Less_w _ _ (congrArg big_Less_enc (big_Less_spec _ _))
  · cases h
end
end Go.Proofs.Ytepcjobghbanmaa.M

namespace Go.Proofs.Ytepcjobghbanmaa.M
open Go
noncomputable section
set_option maxRecDepth 100000
set_option maxHeartbeats 0
noncomputable def big_OfHash_T : Tbl := []
noncomputable def big_OfHash_C : CfgW := mkC Try.prog noG big_OfHash_T 26 0 false
def big_OfHash_lv : Nat → List Nat := fun i => bif Nat.beq i 0 then [2, 3, 6, 7] else []
noncomputable abbrev big_OfHash_b : Code := Try.f30.body.getD .skip
noncomputable abbrev big_OfHash_r : List ResultVar := Try.f30.results.toList
def big_OfHash_hs : List Nat := []

def big_OfHash_enc (r : Vector UInt64 4) : CallOut := ⟨.pv (.arr .u64 4 r), [], true, []⟩
def big_OfHash_s0 (t6 : Vector UInt8 32) (t7 : Int) (t2 : Vector UInt64 4) (a : Vector UInt64 4) : St := ⟨[(2, .p 60000 []), (3, .p 60001 []), (6, .pv (.arr .u8 32 t6)), (7, .pv (.sc .i t7))], [(60000, .box (.pv (.arr .u64 4 t2))), (60001, .box (.pv (.arr .u64 4 a)))]⟩
theorem big_OfHash_g0 (t6 : Vector UInt8 32) (t7 : Int) (t2 : Vector UInt64 4) (a : Vector UInt64 4) (Q : CallOut → Prop) : headRound big_OfHash_C big_OfHash_lv [true, true, false, true, false] big_OfHash_b (big_OfHash_s0 t6 t7 t2 a) (fnK big_OfHash_C big_OfHash_r big_OfHash_hs Q) =
    (condP (decide (t7 < (32 : Int))) ((((0 : Int) ≤ t7) ∧ (t7 < (32 : Int))) ∧ (((8 : Int) ≠ (0 : Int)) ∧ ((((0 : Int) ≤ (w64 (Int.tdiv t7 (8 : Int)))) ∧ ((w64 (Int.tdiv t7 (8 : Int))) < (4 : Int))) ∧ (((8 : Int) ≠ (0 : Int)) ∧ ((((0 : Int) ≤ (w64 (Int.tdiv t7 (8 : Int)))) ∧ ((w64 (Int.tdiv t7 (8 : Int))) < (4 : Int))) ∧ (headP big_OfHash_C big_OfHash_lv [true, true, false, true, false] big_OfHash_b (big_OfHash_s0 t6 (w64 (t7 + (1 : Int))) t2 (Vector.setIfInBounds a (Int.toNat (w64 (Int.tdiv t7 (8 : Int)))) ((List.getD (Vector.toList a) (Int.toNat (w64 (Int.tdiv t7 (8 : Int)))) (0 : UInt64)) ||| (shl_u64 (UInt8.toUInt64 (List.getD (Vector.toList t6) (Int.toNat t7) (0 : UInt8))) (UInt64.toNat ((8 : UInt64) * (UInt64.ofInt (Int.tmod t7 (8 : Int))))))))) (fnK big_OfHash_C big_OfHash_r big_OfHash_hs Q))))))) (Q (big_OfHash_enc a))) := by kernel_rfl
theorem big_OfHash_k0 {r : Vector UInt64 4} {Q : CallOut → Prop} (hQ : Q (big_OfHash_enc r)) : ∀ k : Nat, (∀ (t6 : Vector UInt8 32) (t7 : Int) (t2 : Vector UInt64 4) (a : Vector UInt64 4), big_OfHash_h0 k t6 t7 t2 a = some r → headP big_OfHash_C big_OfHash_lv [true, true, false, true, false] big_OfHash_b (big_OfHash_s0 t6 t7 t2 a) (fnK big_OfHash_C big_OfHash_r big_OfHash_hs Q))
  | 0 => fun _ _ _ _ h => no_ok h
  | k + 1 => fun t6 t7 t2 a h => headP_step (Eq.mpr (big_OfHash_g0 t6 t7 t2 a Q) (have h := (big_OfHash_h0_q k t6 t7 t2 a).symm.trans h; cond_ok h (fun h => ite_ok h fun hc0 h => ⟨by decide +kernel, ite_ok h fun hc1 h => ⟨by decide +kernel, ⟨hc1, (big_OfHash_k0 hQ k) _ _ _ _ h⟩⟩⟩) (fun h => ret_ok (Q := Q) (e := big_OfHash_enc) h hQ)))
theorem big_OfHash_e (h_0 : Vector UInt8 32) (Q : CallOut → Prop) : evalFnP big_OfHash_C big_OfHash_lv big_OfHash_r big_OfHash_hs big_OfHash_b [.pv (.arr .u8 32 h_0)] [] Q =
    (headP big_OfHash_C big_OfHash_lv [true, true, false, true, false] big_OfHash_b (big_OfHash_s0 h_0 (0 : Int) (Vector.replicate (4 : Nat) (0 : UInt64)) (Vector.replicate (4 : Nat) (0 : UInt64))) (fnK big_OfHash_C big_OfHash_r big_OfHash_hs Q)) := by kernel_rfl
theorem big_OfHash_w {k : Nat} (h_0 : Vector UInt8 32) {r} {Q : CallOut → Prop} (h : big_OfHash k h_0 = some r) (hQ : Q (big_OfHash_enc r)) : evalFnP big_OfHash_C big_OfHash_lv big_OfHash_r big_OfHash_hs big_OfHash_b [.pv (.arr .u8 32 h_0)] [] Q :=
  Eq.mpr (big_OfHash_e h_0 Q) (have h := (big_OfHash_q k h_0).symm.trans h; (big_OfHash_k0 hQ _) _ _ _ _ h)
def big_OfHash_c : Ans
  | [.pv (.arr .u8 32 h_0)], [] => some (none, big_OfHash_enc (hashU h_0))
  | _, _ => none
theorem big_OfHash_tok : TblOK Try.prog noG big_OfHash_T := .nil
theorem big_OfHash_ok : FnOK Try.prog noG 30 (unW big_OfHash_c) := by
  refine FnOK.ofC (T := big_OfHash_T) (nt := 26) (np := 0) (nf := false) (hs := big_OfHash_hs) (fn := Try.f30) (body := big_OfHash_b) big_OfHash_tok (by kernel_rfl) (by kernel_rfl) (by kernel_rfl) (by kernel_rfl) (c := big_OfHash_c) (lv := big_OfHash_lv) ?_
  intro xs mem p out h hp
  unfold big_OfHash_c at h
  split at h
  · cases h
    obtain ⟨k, hk⟩ := big_OfHash_spec _
    exact big_OfHash_w _ hk rfl
  · cases h
end
end Go.Proofs.Ytepcjobghbanmaa.M

namespace Go.Proofs.Ytepcjobghbanmaa.M
open Go
noncomputable section
set_option maxRecDepth 100000
set_option maxHeartbeats 0
noncomputable def big_Add_T : Tbl := []
noncomputable def big_Add_C : CfgW := mkC Try.prog noG big_Add_T 28 0 false
def big_Add_lv : Nat → List Nat := fun i => bif Nat.beq i 0 then [2, 3, 4, 6, 8] else []
noncomputable abbrev big_Add_b : Code := Try.f20.body.getD .skip
noncomputable abbrev big_Add_r : List ResultVar := Try.f20.results.toList
def big_Add_hs : List Nat := []

def big_Add_enc (r : Vector UInt64 4 × Bool) : CallOut := ⟨.tup [.pv (.arr .u64 4 r.1), .pv (.sc .b r.2)], [], true, []⟩
def big_Add_s0 (c : UInt64) (t8 : Int) (a : Vector UInt64 4) (b : Vector UInt64 4) (t4 : Vector UInt64 4) : St := ⟨[(2, .p 60000 []), (3, .p 60001 []), (4, .p 60002 []), (6, .pv (.sc .u64 c)), (8, .pv (.sc .i t8))], [(60000, .box (.pv (.arr .u64 4 a))), (60001, .box (.pv (.arr .u64 4 b))), (60002, .box (.pv (.arr .u64 4 t4)))]⟩
theorem big_Add_g0 (c : UInt64) (t8 : Int) (a : Vector UInt64 4) (b : Vector UInt64 4) (t4 : Vector UInt64 4) (Q : CallOut → Prop) : headRound big_Add_C big_Add_lv [true, true, false, true, false] big_Add_b (big_Add_s0 c t8 a b t4) (fnK big_Add_C big_Add_r big_Add_hs Q) =
    (condP (decide (t8 < (4 : Int))) ((((0 : Int) ≤ t8) ∧ (t8 < (4 : Int))) ∧ ((((0 : Int) ≤ t8) ∧ (t8 < (4 : Int))) ∧ (((UInt64.toNat c) ≤ (1 : Nat)) ∧ ((((0 : Int) ≤ t8) ∧ (t8 < (4 : Int))) ∧ (headP big_Add_C big_Add_lv [true, true, false, true, false] big_Add_b (big_Add_s0 (addHi (List.getD (Vector.toList a) (Int.toNat t8) (0 : UInt64)) (List.getD (Vector.toList b) (Int.toNat t8) (0 : UInt64)) c) (w64 (t8 + (1 : Int))) (Vector.setIfInBounds a (Int.toNat t8) (((List.getD (Vector.toList a) (Int.toNat t8) (0 : UInt64)) + (List.getD (Vector.toList b) (Int.toNat t8) (0 : UInt64))) + c)) b t4) (fnK big_Add_C big_Add_r big_Add_hs Q)))))) (Q (big_Add_enc (a, (!(decide (c = (0 : UInt64)))))))) := by kernel_rfl
theorem big_Add_k0 {r : Vector UInt64 4 × Bool} {Q : CallOut → Prop} (hQ : Q (big_Add_enc r)) : ∀ k : Nat, (∀ (c : UInt64) (t8 : Int) (a : Vector UInt64 4) (b : Vector UInt64 4) (t4 : Vector UInt64 4), big_Add_h0 k c t8 a b t4 = some r → headP big_Add_C big_Add_lv [true, true, false, true, false] big_Add_b (big_Add_s0 c t8 a b t4) (fnK big_Add_C big_Add_r big_Add_hs Q))
  | 0 => fun _ _ _ _ _ h => no_ok h
  | k + 1 => fun c t8 a b t4 h => headP_step (Eq.mpr (big_Add_g0 c t8 a b t4 Q) (have h := (big_Add_h0_q k c t8 a b t4).symm.trans h; cond_ok h (fun h => ite_ok h fun hc0 h => ⟨hc0, ite_ok h fun hc1 h => ⟨hc0, (big_Add_k0 hQ k) _ _ _ _ _ h⟩⟩) (fun h => ret_ok (Q := Q) (e := big_Add_enc) h hQ)))
theorem big_Add_e (a : Vector UInt64 4) (b : Vector UInt64 4) (Q : CallOut → Prop) : evalFnP big_Add_C big_Add_lv big_Add_r big_Add_hs big_Add_b [.pv (.arr .u64 4 a), .pv (.arr .u64 4 b)] [] Q =
    (headP big_Add_C big_Add_lv [true, true, false, true, false] big_Add_b (big_Add_s0 (0 : UInt64) (0 : Int) a b (Vector.replicate (4 : Nat) (0 : UInt64))) (fnK big_Add_C big_Add_r big_Add_hs Q)) := by kernel_rfl
theorem big_Add_w {k : Nat} (a : Vector UInt64 4) (b : Vector UInt64 4) {r} {Q : CallOut → Prop} (h : big_Add k a b = some r) (hQ : Q (big_Add_enc r)) : evalFnP big_Add_C big_Add_lv big_Add_r big_Add_hs big_Add_b [.pv (.arr .u64 4 a), .pv (.arr .u64 4 b)] [] Q :=
  Eq.mpr (big_Add_e a b Q) (have h := (big_Add_q k a b).symm.trans h; (big_Add_k0 hQ _) _ _ _ _ _ h)
def big_Add_c : Ans
  | [.pv (.arr .u64 4 a), .pv (.arr .u64 4 b)], [] => some (none, big_Add_enc ((addV a b, addB a b)))
  | _, _ => none
theorem big_Add_tok : TblOK Try.prog noG big_Add_T := .nil
theorem big_Add_ok : FnOK Try.prog noG 20 (unW big_Add_c) := by
  refine FnOK.ofC (T := big_Add_T) (nt := 28) (np := 0) (nf := false) (hs := big_Add_hs) (fn := Try.f20) (body := big_Add_b) big_Add_tok (by kernel_rfl) (by kernel_rfl) (by kernel_rfl) (by kernel_rfl) (c := big_Add_c) (lv := big_Add_lv) ?_
  intro xs mem p out h hp
  unfold big_Add_c at h
  split at h
  · cases h
    obtain ⟨k, hk⟩ := big_Add_spec _ _
    exact big_Add_w _ _ hk rfl
  · cases h
end
end Go.Proofs.Ytepcjobghbanmaa.M

namespace Go.Proofs.Ytepcjobghbanmaa.M
open Go
noncomputable section
set_option maxRecDepth 100000
set_option maxHeartbeats 0
noncomputable def big_bit_T : Tbl := []
noncomputable def big_bit_C : CfgW := mkC Try.prog noG big_bit_T 15 0 false
def big_bit_lv : Nat → List Nat := fun i => []
noncomputable abbrev big_bit_b : Code := Try.f53.body.getD .skip
noncomputable abbrev big_bit_r : List ResultVar := Try.f53.results.toList
def big_bit_hs : List Nat := []

def big_bit_enc (r : Bool) : CallOut := ⟨.pv (.sc .b r), [], true, []⟩
theorem big_bit_e (a : Vector UInt64 4) (n : Int) (Q : CallOut → Prop) : evalFnP big_bit_C big_bit_lv big_bit_r big_bit_hs big_bit_b [.pv (.arr .u64 4 a), .pv (.sc .i n)] [] Q =
    (((64 : Int) ≠ (0 : Int)) ∧ ((((0 : Int) ≤ (w64 (Int.tdiv n (64 : Int)))) ∧ ((w64 (Int.tdiv n (64 : Int))) < (4 : Int))) ∧ (((64 : UInt64) ≠ (0 : UInt64)) ∧ (Q (big_bit_enc (!(decide (((shr_u64 (List.getD (Vector.toList a) (Int.toNat (w64 (Int.tdiv n (64 : Int)))) (0 : UInt64)) (UInt64.toNat ((UInt64.ofInt n) % (64 : UInt64)))) &&& (1 : UInt64)) = (0 : UInt64))))))))) := by kernel_rfl
theorem big_bit_w (a : Vector UInt64 4) (n : Int) {r} {Q : CallOut → Prop} (h : big_bit a n = some r) (hQ : Q (big_bit_enc r)) : evalFnP big_bit_C big_bit_lv big_bit_r big_bit_hs big_bit_b [.pv (.arr .u64 4 a), .pv (.sc .i n)] [] Q :=
  Eq.mpr (big_bit_e a n Q) (have h := (big_bit_q a n).symm.trans h; ⟨by decide +kernel, ite_ok h fun hc0 h => ⟨by decide +kernel, ret_ok (Q := Q) (e := big_bit_enc) h hQ⟩⟩)
def big_bit_c : Ans
  | [.pv (.arr .u64 4 a), .pv (.sc .i n)], [] => some (some (0 ≤ n ∧ n < 256), big_bit_enc ((uV a).testBit n.toNat))
  | _, _ => none
theorem big_bit_tok : TblOK Try.prog noG big_bit_T := .nil
theorem big_bit_ok : FnOK Try.prog noG 53 (unW big_bit_c) := by
  refine FnOK.ofC (T := big_bit_T) (nt := 15) (np := 0) (nf := false) (hs := big_bit_hs) (fn := Try.f53) (body := big_bit_b) big_bit_tok (by kernel_rfl) (by kernel_rfl) (by kernel_rfl) (by kernel_rfl) (c := big_bit_c) (lv := big_bit_lv) ?_
  intro xs mem p out h hp
  unfold big_bit_c at h
  split at h
  · cases h
    exact big_bit_w _ _ (big_bit_spec _ _ hp) rfl
  · cases h
end
end Go.Proofs.Ytepcjobghbanmaa.M

namespace Go.Proofs.Ytepcjobghbanmaa.M
open Go
noncomputable section
set_option maxRecDepth 100000
set_option maxHeartbeats 0
noncomputable def big_Over_T : Tbl := [(36, [], big_Len_c), (53, [], big_bit_c), (24, [], big_Left_c), (22, [], big_Sub_c)]
noncomputable def big_Over_C : CfgW := mkC Try.prog noG big_Over_T 58 0 false
def big_Over_lv : Nat → List Nat := fun i => bif Nat.beq i 0 then [2, 3, 4, 5, 7] else []
noncomputable abbrev big_Over_b : Code := Try.f15.body.getD .skip
noncomputable abbrev big_Over_r : List ResultVar := Try.f15.results.toList
def big_Over_hs : List Nat := []

def big_Over_enc (r : Vector UInt64 4 × Vector UInt64 4 × Int) : CallOut := ⟨.tup [.pv (.arr .u64 4 r.1), .pv (.arr .u64 4 r.2.1), .pv (.sc .i r.2.2)], [], true, []⟩
def big_Over_s0 (n : Int) (a : Vector UInt64 4) (b : Vector UInt64 4) (q : Vector UInt64 4) (r_ : Vector UInt64 4) : St := ⟨[(2, .p 60000 []), (3, .p 60001 []), (4, .p 60002 []), (5, .p 60003 []), (7, .pv (.sc .i n))], [(60000, .box (.pv (.arr .u64 4 a))), (60001, .box (.pv (.arr .u64 4 b))), (60002, .box (.pv (.arr .u64 4 q))), (60003, .box (.pv (.arr .u64 4 r_)))]⟩
theorem big_Over_g0 (n : Int) (a : Vector UInt64 4) (b : Vector UInt64 4) (q : Vector UInt64 4) (r_ : Vector UInt64 4) (Q : CallOut → Prop) : headRound big_Over_C big_Over_lv [true, true, false, true, false] big_Over_b (big_Over_s0 n a b q r_) (fnK big_Over_C big_Over_r big_Over_hs Q) =
    (condP (decide ((0 : Int) ≤ n)) ((((0 : Int) ≤ (255 : Int)) ∧ ((255 : Int) < (256 : Int))) ∧ ((((-(9223372036854775808 : Int)) ≤ (1 : Int)) ∧ ((1 : Int) < (9223372036854775808 : Int))) ∧ ((((0 : Int) ≤ n) ∧ (n < (256 : Int))) ∧ (condP (Nat.testBit (uV a) (Int.toNat n)) ((((0 : Int) ≤ (0 : Int)) ∧ ((0 : Int) < (4 : Int))) ∧ ((((0 : Int) ≤ (0 : Int)) ∧ ((0 : Int) < (4 : Int))) ∧ (condP (eqb (Nat.testBit (uV r_) (255 : Nat)) false) (condP (bif false then true else (!(subB (Vector.setIfInBounds (uW ((uV r_) * ((2 : Nat) ^ (1 : Nat)))) (0 : Nat) ((List.getD (Vector.toList (uW ((uV r_) * ((2 : Nat) ^ (1 : Nat))))) (0 : Nat) (0 : UInt64)) ||| (1 : UInt64))) b))) (((64 : Int) ≠ (0 : Int)) ∧ ((((0 : Int) ≤ (w64 (Int.tdiv n (64 : Int)))) ∧ ((w64 (Int.tdiv n (64 : Int))) < (4 : Int))) ∧ (((64 : UInt64) ≠ (0 : UInt64)) ∧ ((((0 : Int) ≤ (w64 (Int.tdiv n (64 : Int)))) ∧ ((w64 (Int.tdiv n (64 : Int))) < (4 : Int))) ∧ (headP big_Over_C big_Over_lv [true, true, false, true, false] big_Over_b (big_Over_s0 (w64 (n - (1 : Int))) a b (Vector.setIfInBounds q (Int.toNat (w64 (Int.tdiv n (64 : Int)))) ((List.getD (Vector.toList q) (Int.toNat (w64 (Int.tdiv n (64 : Int)))) (0 : UInt64)) ||| (shl_u64 (1 : UInt64) (UInt64.toNat ((UInt64.ofInt n) % (64 : UInt64)))))) (subV (Vector.setIfInBounds (uW ((uV r_) * ((2 : Nat) ^ (1 : Nat)))) (0 : Nat) ((List.getD (Vector.toList (uW ((uV r_) * ((2 : Nat) ^ (1 : Nat))))) (0 : Nat) (0 : UInt64)) ||| (1 : UInt64))) b)) (fnK big_Over_C big_Over_r big_Over_hs Q)))))) (headP big_Over_C big_Over_lv [true, true, false, true, false] big_Over_b (big_Over_s0 (w64 (n - (1 : Int))) a b q (Vector.setIfInBounds (uW ((uV r_) * ((2 : Nat) ^ (1 : Nat)))) (0 : Nat) ((List.getD (Vector.toList (uW ((uV r_) * ((2 : Nat) ^ (1 : Nat))))) (0 : Nat) (0 : UInt64)) ||| (1 : UInt64)))) (fnK big_Over_C big_Over_r big_Over_hs Q))) (((64 : Int) ≠ (0 : Int)) ∧ ((((0 : Int) ≤ (w64 (Int.tdiv n (64 : Int)))) ∧ ((w64 (Int.tdiv n (64 : Int))) < (4 : Int))) ∧ (((64 : UInt64) ≠ (0 : UInt64)) ∧ ((((0 : Int) ≤ (w64 (Int.tdiv n (64 : Int)))) ∧ ((w64 (Int.tdiv n (64 : Int))) < (4 : Int))) ∧ (headP big_Over_C big_Over_lv [true, true, false, true, false] big_Over_b (big_Over_s0 (w64 (n - (1 : Int))) a b (Vector.setIfInBounds q (Int.toNat (w64 (Int.tdiv n (64 : Int)))) ((List.getD (Vector.toList q) (Int.toNat (w64 (Int.tdiv n (64 : Int)))) (0 : UInt64)) ||| (shl_u64 (1 : UInt64) (UInt64.toNat ((UInt64.ofInt n) % (64 : UInt64)))))) (subV (Vector.setIfInBounds (uW ((uV r_) * ((2 : Nat) ^ (1 : Nat)))) (0 : Nat) ((List.getD (Vector.toList (uW ((uV r_) * ((2 : Nat) ^ (1 : Nat))))) (0 : Nat) (0 : UInt64)) ||| (1 : UInt64))) b)) (fnK big_Over_C big_Over_r big_Over_hs Q))))))))) (condP (eqb (Nat.testBit (uV r_) (255 : Nat)) false) (condP (bif false then true else (!(subB (uW ((uV r_) * ((2 : Nat) ^ (1 : Nat)))) b))) (((64 : Int) ≠ (0 : Int)) ∧ ((((0 : Int) ≤ (w64 (Int.tdiv n (64 : Int)))) ∧ ((w64 (Int.tdiv n (64 : Int))) < (4 : Int))) ∧ (((64 : UInt64) ≠ (0 : UInt64)) ∧ ((((0 : Int) ≤ (w64 (Int.tdiv n (64 : Int)))) ∧ ((w64 (Int.tdiv n (64 : Int))) < (4 : Int))) ∧ (headP big_Over_C big_Over_lv [true, true, false, true, false] big_Over_b (big_Over_s0 (w64 (n - (1 : Int))) a b (Vector.setIfInBounds q (Int.toNat (w64 (Int.tdiv n (64 : Int)))) ((List.getD (Vector.toList q) (Int.toNat (w64 (Int.tdiv n (64 : Int)))) (0 : UInt64)) ||| (shl_u64 (1 : UInt64) (UInt64.toNat ((UInt64.ofInt n) % (64 : UInt64)))))) (subV (uW ((uV r_) * ((2 : Nat) ^ (1 : Nat)))) b)) (fnK big_Over_C big_Over_r big_Over_hs Q)))))) (headP big_Over_C big_Over_lv [true, true, false, true, false] big_Over_b (big_Over_s0 (w64 (n - (1 : Int))) a b q (uW ((uV r_) * ((2 : Nat) ^ (1 : Nat))))) (fnK big_Over_C big_Over_r big_Over_hs Q))) (((64 : Int) ≠ (0 : Int)) ∧ ((((0 : Int) ≤ (w64 (Int.tdiv n (64 : Int)))) ∧ ((w64 (Int.tdiv n (64 : Int))) < (4 : Int))) ∧ (((64 : UInt64) ≠ (0 : UInt64)) ∧ ((((0 : Int) ≤ (w64 (Int.tdiv n (64 : Int)))) ∧ ((w64 (Int.tdiv n (64 : Int))) < (4 : Int))) ∧ (headP big_Over_C big_Over_lv [true, true, false, true, false] big_Over_b (big_Over_s0 (w64 (n - (1 : Int))) a b (Vector.setIfInBounds q (Int.toNat (w64 (Int.tdiv n (64 : Int)))) ((List.getD (Vector.toList q) (Int.toNat (w64 (Int.tdiv n (64 : Int)))) (0 : UInt64)) ||| (shl_u64 (1 : UInt64) (UInt64.toNat ((UInt64.ofInt n) % (64 : UInt64)))))) (subV (uW ((uV r_) * ((2 : Nat) ^ (1 : Nat)))) b)) (fnK big_Over_C big_Over_r big_Over_hs Q))))))))))) (Q (big_Over_enc (q, r_, (0 : Int))))) := by kernel_rfl
theorem big_Over_k0 {r : Vector UInt64 4 × Vector UInt64 4 × Int} {Q : CallOut → Prop} (hQ : Q (big_Over_enc r)) : ∀ k : Nat, (∀ (n : Int) (a : Vector UInt64 4) (b : Vector UInt64 4) (q : Vector UInt64 4) (r_ : Vector UInt64 4), big_Over_h0 k n a b q r_ = some r → headP big_Over_C big_Over_lv [true, true, false, true, false] big_Over_b (big_Over_s0 n a b q r_) (fnK big_Over_C big_Over_r big_Over_hs Q))
  | 0 => fun _ _ _ _ _ h => no_ok h
  | k + 1 => fun n a b q r_ h => headP_step (Eq.mpr (big_Over_g0 n a b q r_ Q) (have h := (big_Over_h0_q k n a b q r_).symm.trans h; cond_ok h (fun h => ⟨by decide +kernel, ⟨by decide +kernel, ite_ok h fun hc0 h => cond_ok h (fun h => ⟨by decide +kernel, ⟨by decide +kernel, cond_ok h (fun h => cond_ok h (fun h => ⟨by decide +kernel, ite_ok h fun hc1 h => ⟨by decide +kernel, ⟨hc1, (big_Over_k0 hQ k) _ _ _ _ _ h⟩⟩⟩) (fun h => (big_Over_k0 hQ k) _ _ _ _ _ h)) (fun h => ⟨by decide +kernel, ite_ok h fun hc1 h => ⟨by decide +kernel, ⟨hc1, (big_Over_k0 hQ k) _ _ _ _ _ h⟩⟩⟩)⟩⟩) (fun h => cond_ok h (fun h => cond_ok h (fun h => ⟨by decide +kernel, ite_ok h fun hc1 h => ⟨by decide +kernel, ⟨hc1, (big_Over_k0 hQ k) _ _ _ _ _ h⟩⟩⟩) (fun h => (big_Over_k0 hQ k) _ _ _ _ _ h)) (fun h => ⟨by decide +kernel, ite_ok h fun hc1 h => ⟨by decide +kernel, ⟨hc1, (big_Over_k0 hQ k) _ _ _ _ _ h⟩⟩⟩))⟩⟩) (fun h => ret_ok (Q := Q) (e := big_Over_enc) h hQ)))
theorem big_Over_e (a : Vector UInt64 4) (b : Vector UInt64 4) (Q : CallOut → Prop) : evalFnP big_Over_C big_Over_lv big_Over_r big_Over_hs big_Over_b [.pv (.arr .u64 4 a), .pv (.arr .u64 4 b)] [] Q =
    (condP (decide ((Vector.toList b) = (Vector.toList (Vector.replicate (4 : Nat) (0 : UInt64))))) (Q (big_Over_enc ((Vector.replicate (4 : Nat) (0 : UInt64)), (Vector.replicate (4 : Nat) (0 : UInt64)), (2 : Int)))) (headP big_Over_C big_Over_lv [true, true, false, true, false] big_Over_b (big_Over_s0 (w64 ((((lenN (uV a)) : Nat) : Int) - (1 : Int))) a b (Vector.replicate (4 : Nat) (0 : UInt64)) (Vector.replicate (4 : Nat) (0 : UInt64))) (fnK big_Over_C big_Over_r big_Over_hs Q))) := by kernel_rfl
theorem big_Over_w {k : Nat} (a : Vector UInt64 4) (b : Vector UInt64 4) {r} {Q : CallOut → Prop} (h : big_Over k a b = some r) (hQ : Q (big_Over_enc r)) : evalFnP big_Over_C big_Over_lv big_Over_r big_Over_hs big_Over_b [.pv (.arr .u64 4 a), .pv (.arr .u64 4 b)] [] Q :=
  Eq.mpr (big_Over_e a b Q) (have h := (big_Over_q k a b).symm.trans h; cond_ok h (fun h => ret_ok (Q := Q) (e := big_Over_enc) h hQ) (fun h => (big_Over_k0 hQ _) _ _ _ _ _ h))
def big_Over_c : Ans
  | [.pv (.arr .u64 4 a), .pv (.arr .u64 4 b)], [] => some (none, big_Over_enc ((ovQ a b, ovR a b, ovE b)))
  | _, _ => none
theorem big_Over_tok : TblOK Try.prog noG big_Over_T := .cons ⟨by kernel_rfl, big_Len_ok⟩ (.cons ⟨by kernel_rfl, big_bit_ok⟩ (.cons ⟨by kernel_rfl, big_Left_ok⟩ (.cons ⟨by kernel_rfl, big_Sub_ok⟩ (.nil))))
theorem big_Over_ok : FnOK Try.prog noG 15 (unW big_Over_c) := by
  refine FnOK.ofC (T := big_Over_T) (nt := 58) (np := 0) (nf := false) (hs := big_Over_hs) (fn := Try.f15) (body := big_Over_b) big_Over_tok (by kernel_rfl) (by kernel_rfl) (by kernel_rfl) (by kernel_rfl) (c := big_Over_c) (lv := big_Over_lv) ?_
  intro xs mem p out h hp
  unfold big_Over_c at h
  split at h
  · cases h
    obtain ⟨k, hk⟩ := big_Over_spec _ _
    exact big_Over_w _ _ hk rfl
  · cases h
end
end Go.Proofs.Ytepcjobghbanmaa.M
