/- Part of the proofs: what functions of the program do: plain functions, and the walks that show it. No condition. -/
import Derived.KernelRfl
import Derived.Test.YtbdajagcinfeeaaDoorProg
import Derived.Test.YtbdajagcinfeeaaDoorLe
import Derived.Test.YtbdajagcinfeeaaDoorSwords
import Derived.Test.YtbdajagcinfeeaaDoorSbigS
import Derived.Test.YtbdajagcinfeeaaDoorSbigB
import Derived.Test.YtbdajagcinfeeaaDoorFbits
import Derived.Test.YtbdajagcinfeeaaDoorSshaK
set_option linter.unusedVariables false
set_option linter.unusedSimpArgs false
set_option autoImplicit false
namespace Go.Proofs.YtbdajagcinfeeaaDoor.M
open Go
noncomputable section
/-- moneyer/big.Of -/
def big_Of (n : UInt64) : Vector UInt64 4 :=
  (Vector.setIfInBounds (Vector.replicate (4 : Nat) (0 : UInt64)) (0 : Nat) n)
theorem big_Of_q (n : UInt64) : big_Of n = ((Vector.setIfInBounds (Vector.replicate (4 : Nat) (0 : UInt64)) (0 : Nat) n)) := by kernel_rfl
theorem big_Of_spec (n : UInt64) : big_Of n = uW n.toNat := by
  have hn := n.toNat_lt
  refine w_ext fun q hq => ?_
  rw [uW_get _ _ hq]
  unfold big_Of gW
  rw [vget_set _ _ _ _ _ (by omega), vget_rep]
  have : q = 0 ∨ q = 1 ∨ q = 2 ∨ q = 3 := by omega
  rcases this with h | h | h | h <;> subst h <;> simp <;> omega

end
end Go.Proofs.YtbdajagcinfeeaaDoor.M

namespace Go.Proofs.YtbdajagcinfeeaaDoor.M
open Go
noncomputable section
/-- the loop 1 of moneyer/big.Right -/
def big_Right_h1 : Nat → Int → Int → (Vector UInt64 4) → (Vector UInt64 4) → (Vector UInt64 4) → Option (Vector UInt64 4)
  | 0, _, _, _, _, _ => none
  | k + 1, n, i, a, t4, x_ => bif decide ((w64 (i + (w64 (Int.tdiv n (64 : Int))))) < (4 : Int)) then (if ((0 : Int) ≤ (w64 (i + (w64 (Int.tdiv n (64 : Int)))))) ∧ ((w64 (i + (w64 (Int.tdiv n (64 : Int))))) < (4 : Int)) then
        if ((0 : Int) ≤ i) ∧ (i < (4 : Int)) then
          bif eqb (decide ((w64 ((w64 (i + (w64 (Int.tdiv n (64 : Int))))) + (1 : Int))) < (4 : Int))) true then (bif bif true then (!(decide ((Int.tmod n (64 : Int)) = (0 : Int)))) else false then (if ((0 : Int) ≤ (w64 ((w64 (i + (w64 (Int.tdiv n (64 : Int))))) + (1 : Int)))) ∧ ((w64 ((w64 (i + (w64 (Int.tdiv n (64 : Int))))) + (1 : Int))) < (4 : Int)) then
                big_Right_h1 k n (w64 (i + (1 : Int))) a t4 (Vector.setIfInBounds (Vector.setIfInBounds x_ (Int.toNat i) (shr_u64 (List.getD (Vector.toList a) (Int.toNat (w64 (i + (w64 (Int.tdiv n (64 : Int)))))) (0 : UInt64)) (UInt64.toNat ((UInt64.ofInt n) % (64 : UInt64))))) (Int.toNat i) ((List.getD (Vector.toList (Vector.setIfInBounds x_ (Int.toNat i) (shr_u64 (List.getD (Vector.toList a) (Int.toNat (w64 (i + (w64 (Int.tdiv n (64 : Int)))))) (0 : UInt64)) (UInt64.toNat ((UInt64.ofInt n) % (64 : UInt64)))))) (Int.toNat i) (0 : UInt64)) ||| (shl_u64 (List.getD (Vector.toList a) (Int.toNat (w64 ((w64 (i + (w64 (Int.tdiv n (64 : Int))))) + (1 : Int)))) (0 : UInt64)) (UInt64.toNat ((64 : UInt64) - ((UInt64.ofInt n) % (64 : UInt64)))))))
              else none)
              else (big_Right_h1 k n (w64 (i + (1 : Int))) a t4 (Vector.setIfInBounds x_ (Int.toNat i) (shr_u64 (List.getD (Vector.toList a) (Int.toNat (w64 (i + (w64 (Int.tdiv n (64 : Int)))))) (0 : UInt64)) (UInt64.toNat ((UInt64.ofInt n) % (64 : UInt64)))))))
            else (big_Right_h1 k n (w64 (i + (1 : Int))) a t4 (Vector.setIfInBounds x_ (Int.toNat i) (shr_u64 (List.getD (Vector.toList a) (Int.toNat (w64 (i + (w64 (Int.tdiv n (64 : Int)))))) (0 : UInt64)) (UInt64.toNat ((UInt64.ofInt n) % (64 : UInt64))))))
        else none
      else none)
      else (some x_)
theorem big_Right_h1_q (k : Nat) (n : Int) (i : Int) (a : Vector UInt64 4) (t4 : Vector UInt64 4) (x_ : Vector UInt64 4) : big_Right_h1 (k + 1) n i a t4 x_ =
  (bif decide ((w64 (i + (w64 (Int.tdiv n (64 : Int))))) < (4 : Int)) then (if ((0 : Int) ≤ (w64 (i + (w64 (Int.tdiv n (64 : Int)))))) ∧ ((w64 (i + (w64 (Int.tdiv n (64 : Int))))) < (4 : Int)) then
        if ((0 : Int) ≤ i) ∧ (i < (4 : Int)) then
          bif eqb (decide ((w64 ((w64 (i + (w64 (Int.tdiv n (64 : Int))))) + (1 : Int))) < (4 : Int))) true then (bif bif true then (!(decide ((Int.tmod n (64 : Int)) = (0 : Int)))) else false then (if ((0 : Int) ≤ (w64 ((w64 (i + (w64 (Int.tdiv n (64 : Int))))) + (1 : Int)))) ∧ ((w64 ((w64 (i + (w64 (Int.tdiv n (64 : Int))))) + (1 : Int))) < (4 : Int)) then
                big_Right_h1 k n (w64 (i + (1 : Int))) a t4 (Vector.setIfInBounds (Vector.setIfInBounds x_ (Int.toNat i) (shr_u64 (List.getD (Vector.toList a) (Int.toNat (w64 (i + (w64 (Int.tdiv n (64 : Int)))))) (0 : UInt64)) (UInt64.toNat ((UInt64.ofInt n) % (64 : UInt64))))) (Int.toNat i) ((List.getD (Vector.toList (Vector.setIfInBounds x_ (Int.toNat i) (shr_u64 (List.getD (Vector.toList a) (Int.toNat (w64 (i + (w64 (Int.tdiv n (64 : Int)))))) (0 : UInt64)) (UInt64.toNat ((UInt64.ofInt n) % (64 : UInt64)))))) (Int.toNat i) (0 : UInt64)) ||| (shl_u64 (List.getD (Vector.toList a) (Int.toNat (w64 ((w64 (i + (w64 (Int.tdiv n (64 : Int))))) + (1 : Int)))) (0 : UInt64)) (UInt64.toNat ((64 : UInt64) - ((UInt64.ofInt n) % (64 : UInt64)))))))
              else none)
              else (big_Right_h1 k n (w64 (i + (1 : Int))) a t4 (Vector.setIfInBounds x_ (Int.toNat i) (shr_u64 (List.getD (Vector.toList a) (Int.toNat (w64 (i + (w64 (Int.tdiv n (64 : Int)))))) (0 : UInt64)) (UInt64.toNat ((UInt64.ofInt n) % (64 : UInt64)))))))
            else (big_Right_h1 k n (w64 (i + (1 : Int))) a t4 (Vector.setIfInBounds x_ (Int.toNat i) (shr_u64 (List.getD (Vector.toList a) (Int.toNat (w64 (i + (w64 (Int.tdiv n (64 : Int)))))) (0 : UInt64)) (UInt64.toNat ((UInt64.ofInt n) % (64 : UInt64))))))
        else none
      else none)
      else (some x_)) := by kernel_rfl
/-- moneyer/big.Right -/
def big_Right (k : Nat) (a : Vector UInt64 4) (n : Int) : Option (Vector UInt64 4) :=
  bif decide (n ≤ (0 : Int)) then (some a)
    else (bif decide ((256 : Int) ≤ n) then (some (Vector.replicate (4 : Nat) (0 : UInt64)))
      else (big_Right_h1 k n (0 : Int) a (Vector.replicate (4 : Nat) (0 : UInt64)) (Vector.replicate (4 : Nat) (0 : UInt64))))
theorem big_Right_q (k : Nat) (a : Vector UInt64 4) (n : Int) : big_Right k a n = (bif decide (n ≤ (0 : Int)) then (some a)
    else (bif decide ((256 : Int) ≤ n) then (some (Vector.replicate (4 : Nat) (0 : UInt64)))
      else (big_Right_h1 k n (0 : Int) a (Vector.replicate (4 : Nat) (0 : UInt64)) (Vector.replicate (4 : Nat) (0 : UInt64))))) := by kernel_rfl
theorem big_Right_spec (a : Vector UInt64 4) (n : Int) (h : -9223372036854775808 ≤ n ∧ n < 9223372036854775808) : ∃ k, big_Right k a n = some (uW (uV a / 2 ^ n.toNat)) := by
  show Ev (fun k => big_Right k a n) _
  refine Ev.same (fun k => big_Right_q k a n) ?_
  by_cases c0 : n ≤ 0
  · refine Ev.done0 fun k => ?_
    rw [bif_pos c0, show n.toNat = 0 by omega, Nat.pow_zero, Nat.div_one, uW_uV]
  by_cases c1 : 256 ≤ n
  · refine Ev.done0 fun k => ?_
    rw [bif_neg c0, bif_pos c1]
    refine congrArg some (u_bit_ext fun i hi => ?_)
    rw [uV_rep, uW_bit, Nat.testBit_div_two_pow, uV_high _ _ (by omega), Bool.and_false, Nat.zero_testBit]
  obtain ⟨N, rfl⟩ : ∃ N : Nat, n = (N : Int) := ⟨n.toNat, by omega⟩
  have hN : N < 256 := by omega
  refine Ev.same (fun k => by rw [bif_neg c0, bif_neg c1]) ?_
  rw [Int.toNat_natCast]
  have := Ev.inv (H := fun k i x => big_Right_h1 k (N : Int) i a (Vector.replicate 4 0) x) (n := 4 - N / 64) (r := uW (uV a / 2 ^ N))
    (fun i x => ∀ j t, j < 4 → t < 64 → (gW x j).testBit t = (decide (j < i) && (uV a / 2 ^ N).testBit (64 * j + t))) ?_ ?_ (4 - N / 64) 0 (Vector.replicate 4 0) (by omega) ?_
  · exact this
  · intro i x hi hv next
    have ed : Int.tdiv ((N : Nat) : Int) 64 = ((N / 64 : Nat) : Int) := rfl
    have em : Int.tmod ((N : Nat) : Int) 64 = ((N % 64 : Nat) : Int) := rfl
    have hk : w64 ((i : Int) + ((N / 64 : Nat) : Int)) = ((i + N / 64 : Nat) : Int) := by rw [w64_id (by omega) (by omega)]; omega
    have hk2 : w64 (((i + N / 64 : Nat) : Int) + 1) = ((i + N / 64 + 1 : Nat) : Int) := by rw [w64_id (by omega) (by omega)]; omega
    have hi4 : i + N / 64 < 4 := by omega
    have fin : ∀ w : UInt64, (∀ t, t < 64 → w.toNat.testBit t = ((gW a (i + N / 64)).testBit (t + N % 64) || (decide (i + N / 64 + 1 < 4 ∧ N % 64 ≠ 0) && (decide (64 - N % 64 ≤ t) && (gW a (i + N / 64 + 1)).testBit (t - (64 - N % 64)))))) →
        ∀ j t, j < 4 → t < 64 → (gW (Vector.setIfInBounds x i w) j).testBit t = (decide (j < i + 1) && (uV a / 2 ^ N).testBit (64 * j + t)) := by
      intro w hw j t hj ht
      rw [gW_set _ _ _ _ (by omega)]
      by_cases e : i = j
      · subst e
        rw [if_pos rfl, hw t ht, decide_eq_true (p := i < i + 1) (by omega), Bool.true_and, right_word a N i hN hi4 t ht]
      · rw [if_neg e, hv j t hj ht]
        congr 1
        rw [decide_eq_decide]; omega
    by_cases c2 : i + N / 64 + 1 < 4 ∧ N % 64 ≠ 0
    · refine Ev.step (fun k => ?_) (next (Vector.setIfInBounds x i (shr_u64 (List.getD (Vector.toList a) (i + N / 64) 0) (N % 64) ||| shl_u64 (List.getD (Vector.toList a) (i + N / 64 + 1) 0) (64 - N % 64))) (fin _ ?_))
      · rw [big_Right_h1_q, ed, w64_nat (a := N / 64) (by omega), hk, hk2, bif_pos (by omega), if_pos (by omega), if_pos (by omega), decide_eq_true (p := ((i + N / 64 + 1 : Nat) : Int) < 4) (by omega), em, decide_eq_false (p := ((N % 64 : Nat) : Int) = 0) (by omega)]
        simp only [eqb, cond_true, Bool.not_false]
        rw [if_pos (by omega), amount N hN, amount2 N hN, set_set, Int.toNat_natCast, vget_set_eq _ _ _ (by omega), Int.toNat_natCast, Int.toNat_natCast, w64_id (by omega) (by omega)]
      · intro t ht
        rw [or_bit, shl_bit _ _ _ (by omega), shr_bit _ _ _ (by omega), decide_eq_true ht, Bool.true_and, gW_def, gW_def, decide_eq_true c2, Bool.true_and]
    · refine Ev.step (fun k => ?_) (next (Vector.setIfInBounds x i (shr_u64 (List.getD (Vector.toList a) (i + N / 64) 0) (N % 64))) (fin _ ?_))
      · rw [big_Right_h1_q, ed, w64_nat (a := N / 64) (by omega), hk, hk2, bif_pos (by omega), if_pos (by omega), if_pos (by omega), em]
        by_cases c3 : i + N / 64 + 1 < 4
        · rw [decide_eq_true (p := ((i + N / 64 + 1 : Nat) : Int) < 4) (by omega), decide_eq_true (p := ((N % 64 : Nat) : Int) = 0) (by omega)]
          simp only [eqb, cond_true, Bool.not_true, cond_false]
          rw [amount N hN, Int.toNat_natCast, Int.toNat_natCast, w64_id (by omega) (by omega)]
        · rw [decide_eq_false (p := ((i + N / 64 + 1 : Nat) : Int) < 4) (by omega)]
          simp only [eqb, cond_false]
          rw [amount N hN, Int.toNat_natCast, Int.toNat_natCast, w64_id (by omega) (by omega)]
      · intro t ht
        rw [shr_bit _ _ _ (by omega), gW_def, decide_eq_false c2, Bool.false_and, Bool.or_false]
  · intro x hv
    refine Ev.done fun k => ?_
    show big_Right_h1 (k + 1) _ _ _ _ _ = _
    rw [big_Right_h1_q, show Int.tdiv ((N : Nat) : Int) 64 = ((N / 64 : Nat) : Int) from rfl, w64_nat (a := N / 64) (by omega), w64_id (by omega) (by omega), bif_neg (by omega)]
    refine congrArg some (vecI fun j t hj ht => ?_)
    rw [hv j t hj ht, Nat.testBit_div_two_pow]
    by_cases c : j < 4 - N / 64
    · rw [decide_eq_true (by omega), Bool.true_and]
    · rw [decide_eq_false (by omega), uV_high _ _ (by omega), Bool.false_and]
  · intro j t hj ht
    rw [gW_rep, decide_eq_false (by omega), Bool.false_and, Nat.zero_testBit]

end
end Go.Proofs.YtbdajagcinfeeaaDoor.M

namespace Go.Proofs.YtbdajagcinfeeaaDoor.M
open Go
noncomputable section
/-- the loop 0 of moneyer/big.Len -/
def big_Len_h0 : Nat → Int → (Vector UInt64 4) → Option (Int)
  | 0, _, _ => none
  | k + 1, i, a => bif decide ((0 : Int) ≤ i) then (if ((0 : Int) ≤ i) ∧ (i < (4 : Int)) then
        bif !(decide ((List.getD (Vector.toList a) (Int.toNat i) (0 : UInt64)) = (0 : UInt64))) then (some (w64 ((w64 (i * (64 : Int))) + (((lenN (UInt64.toNat (List.getD (Vector.toList a) (Int.toNat i) (0 : UInt64)))) : Nat) : Int))))
          else (big_Len_h0 k (w64 (i - (1 : Int))) a)
      else none)
      else (some (0 : Int))
theorem big_Len_h0_q (k : Nat) (i : Int) (a : Vector UInt64 4) : big_Len_h0 (k + 1) i a =
  (bif decide ((0 : Int) ≤ i) then (if ((0 : Int) ≤ i) ∧ (i < (4 : Int)) then
        bif !(decide ((List.getD (Vector.toList a) (Int.toNat i) (0 : UInt64)) = (0 : UInt64))) then (some (w64 ((w64 (i * (64 : Int))) + (((lenN (UInt64.toNat (List.getD (Vector.toList a) (Int.toNat i) (0 : UInt64)))) : Nat) : Int))))
          else (big_Len_h0 k (w64 (i - (1 : Int))) a)
      else none)
      else (some (0 : Int))) := by kernel_rfl
/-- moneyer/big.Len -/
def big_Len (k : Nat) (a : Vector UInt64 4) : Option (Int) :=
  big_Len_h0 k (3 : Int) a
theorem big_Len_q (k : Nat) (a : Vector UInt64 4) : big_Len k a = (big_Len_h0 k (3 : Int) a) := by kernel_rfl
theorem uV_div (a : Vector UInt64 4) (i : Nat) (hi : i < 4) (h : ∀ j, j < 4 → i < j → gW a j = 0) : uV a / 2 ^ (64 * i) = gW a i := by
  have h0 := gW_lt a 0
  have h1 := gW_lt a 1
  have h2 := gW_lt a 2
  have h3 := gW_lt a 3
  have : i = 0 ∨ i = 1 ∨ i = 2 ∨ i = 3 := by omega
  unfold uV
  rcases this with e | e | e | e <;> subst e
  · have a1 := h 1 (by omega) (by omega)
    have a2 := h 2 (by omega) (by omega)
    have a3 := h 3 (by omega) (by omega)
    show _ / 1 = _
    omega
  · have a2 := h 2 (by omega) (by omega)
    have a3 := h 3 (by omega) (by omega)
    show _ / 18446744073709551616 = _
    omega
  · have a3 := h 3 (by omega) (by omega)
    show _ / 340282366920938463463374607431768211456 = _
    omega
  · show _ / 6277101735386680763835789423207666416102355444464034512896 = _
    omega
theorem big_Len_spec (a : Vector UInt64 4) : ∃ k, big_Len k a = some (((lenN (uV a) : Nat) : Int)) := by
  show Ev (fun k => big_Len k a) _
  refine Ev.same (fun k => big_Len_q k a) ?_
  refine Ev.dwn (H := fun k i (_ : Unit) => big_Len_h0 k i a) (n := 4) (fun i _ => ∀ j, j < 4 → i ≤ j → gW a j = 0) ?_ ?_ 4 () (Nat.le_refl _) (fun j h1 h2 => by omega)
  · intro i _ hi hv next
    by_cases c : List.getD (Vector.toList a) i 0 = 0
    · refine Ev.step (fun k => ?_) (next () ?_)
      · rw [big_Len_h0_q, bif_pos (by omega), if_pos (by omega), Int.toNat_natCast, decide_eq_true c, Bool.not_true, cond_false, w64_id (by omega) (by omega)]
      · intro j h1 h2
        by_cases e : i = j
        · subst e; rw [← gW_def, c]; rfl
        · exact hv j h1 (by omega)
    · refine Ev.done fun k => ?_
      rw [big_Len_h0_q, bif_pos (by omega), if_pos (by omega), Int.toNat_natCast, decide_eq_false c, Bool.not_false, cond_true, gW_def]
      have hd := uV_div a i hi (fun j h1 h2 => hv j h1 (by omega))
      have hne : gW a i ≠ 0 := by
        intro e
        exact c (UInt64.toNat_inj.1 e)
      have hs := lenN_shift (n := uV a) (64 * i) (by rw [hd]; exact hne)
      rw [hd] at hs
      have hl : lenN (gW a i) ≤ 64 := lenN_le.2 (gW_lt a i)
      rw [hs, w64_id (x := (i : Int) * 64) (by omega) (by omega), w64_id (by omega) (by omega)]
      refine congrArg some ?_
      omega
  · intro _ hv
    refine Ev.done fun k => ?_
    rw [big_Len_h0_q, bif_neg (by omega)]
    have : uV a = 0 := by
      unfold uV
      rw [hv 0 (by omega) (by omega), hv 1 (by omega) (by omega), hv 2 (by omega) (by omega), hv 3 (by omega) (by omega)]
    rw [this, lenN_zero]
    rfl

end
end Go.Proofs.YtbdajagcinfeeaaDoor.M

namespace Go.Proofs.YtbdajagcinfeeaaDoor.M
open Go
noncomputable section
/-- the loop 1 of moneyer/big.Left -/
def big_Left_h1 : Nat → Int → Int → (Vector UInt64 4) → (Vector UInt64 4) → (Vector UInt64 4) → Option (Vector UInt64 4)
  | 0, _, _, _, _, _ => none
  | k + 1, n, i, a, t4, x_ => bif decide ((w64 (Int.tdiv n (64 : Int))) ≤ i) then (if ((0 : Int) ≤ (w64 (i - (w64 (Int.tdiv n (64 : Int)))))) ∧ ((w64 (i - (w64 (Int.tdiv n (64 : Int))))) < (4 : Int)) then
        if ((0 : Int) ≤ i) ∧ (i < (4 : Int)) then
          bif eqb (decide ((0 : Int) < (w64 (i - (w64 (Int.tdiv n (64 : Int))))))) true then (bif bif true then (!(decide ((Int.tmod n (64 : Int)) = (0 : Int)))) else false then (if ((0 : Int) ≤ (w64 ((w64 (i - (w64 (Int.tdiv n (64 : Int))))) - (1 : Int)))) ∧ ((w64 ((w64 (i - (w64 (Int.tdiv n (64 : Int))))) - (1 : Int))) < (4 : Int)) then
                big_Left_h1 k n (w64 (i - (1 : Int))) a t4 (Vector.setIfInBounds (Vector.setIfInBounds x_ (Int.toNat i) (shl_u64 (List.getD (Vector.toList a) (Int.toNat (w64 (i - (w64 (Int.tdiv n (64 : Int)))))) (0 : UInt64)) (UInt64.toNat ((UInt64.ofInt n) % (64 : UInt64))))) (Int.toNat i) ((List.getD (Vector.toList (Vector.setIfInBounds x_ (Int.toNat i) (shl_u64 (List.getD (Vector.toList a) (Int.toNat (w64 (i - (w64 (Int.tdiv n (64 : Int)))))) (0 : UInt64)) (UInt64.toNat ((UInt64.ofInt n) % (64 : UInt64)))))) (Int.toNat i) (0 : UInt64)) ||| (shr_u64 (List.getD (Vector.toList a) (Int.toNat (w64 ((w64 (i - (w64 (Int.tdiv n (64 : Int))))) - (1 : Int)))) (0 : UInt64)) (UInt64.toNat ((64 : UInt64) - ((UInt64.ofInt n) % (64 : UInt64)))))))
              else none)
              else (big_Left_h1 k n (w64 (i - (1 : Int))) a t4 (Vector.setIfInBounds x_ (Int.toNat i) (shl_u64 (List.getD (Vector.toList a) (Int.toNat (w64 (i - (w64 (Int.tdiv n (64 : Int)))))) (0 : UInt64)) (UInt64.toNat ((UInt64.ofInt n) % (64 : UInt64)))))))
            else (big_Left_h1 k n (w64 (i - (1 : Int))) a t4 (Vector.setIfInBounds x_ (Int.toNat i) (shl_u64 (List.getD (Vector.toList a) (Int.toNat (w64 (i - (w64 (Int.tdiv n (64 : Int)))))) (0 : UInt64)) (UInt64.toNat ((UInt64.ofInt n) % (64 : UInt64))))))
        else none
      else none)
      else (some x_)
theorem big_Left_h1_q (k : Nat) (n : Int) (i : Int) (a : Vector UInt64 4) (t4 : Vector UInt64 4) (x_ : Vector UInt64 4) : big_Left_h1 (k + 1) n i a t4 x_ =
  (bif decide ((w64 (Int.tdiv n (64 : Int))) ≤ i) then (if ((0 : Int) ≤ (w64 (i - (w64 (Int.tdiv n (64 : Int)))))) ∧ ((w64 (i - (w64 (Int.tdiv n (64 : Int))))) < (4 : Int)) then
        if ((0 : Int) ≤ i) ∧ (i < (4 : Int)) then
          bif eqb (decide ((0 : Int) < (w64 (i - (w64 (Int.tdiv n (64 : Int))))))) true then (bif bif true then (!(decide ((Int.tmod n (64 : Int)) = (0 : Int)))) else false then (if ((0 : Int) ≤ (w64 ((w64 (i - (w64 (Int.tdiv n (64 : Int))))) - (1 : Int)))) ∧ ((w64 ((w64 (i - (w64 (Int.tdiv n (64 : Int))))) - (1 : Int))) < (4 : Int)) then
                big_Left_h1 k n (w64 (i - (1 : Int))) a t4 (Vector.setIfInBounds (Vector.setIfInBounds x_ (Int.toNat i) (shl_u64 (List.getD (Vector.toList a) (Int.toNat (w64 (i - (w64 (Int.tdiv n (64 : Int)))))) (0 : UInt64)) (UInt64.toNat ((UInt64.ofInt n) % (64 : UInt64))))) (Int.toNat i) ((List.getD (Vector.toList (Vector.setIfInBounds x_ (Int.toNat i) (shl_u64 (List.getD (Vector.toList a) (Int.toNat (w64 (i - (w64 (Int.tdiv n (64 : Int)))))) (0 : UInt64)) (UInt64.toNat ((UInt64.ofInt n) % (64 : UInt64)))))) (Int.toNat i) (0 : UInt64)) ||| (shr_u64 (List.getD (Vector.toList a) (Int.toNat (w64 ((w64 (i - (w64 (Int.tdiv n (64 : Int))))) - (1 : Int)))) (0 : UInt64)) (UInt64.toNat ((64 : UInt64) - ((UInt64.ofInt n) % (64 : UInt64)))))))
              else none)
              else (big_Left_h1 k n (w64 (i - (1 : Int))) a t4 (Vector.setIfInBounds x_ (Int.toNat i) (shl_u64 (List.getD (Vector.toList a) (Int.toNat (w64 (i - (w64 (Int.tdiv n (64 : Int)))))) (0 : UInt64)) (UInt64.toNat ((UInt64.ofInt n) % (64 : UInt64)))))))
            else (big_Left_h1 k n (w64 (i - (1 : Int))) a t4 (Vector.setIfInBounds x_ (Int.toNat i) (shl_u64 (List.getD (Vector.toList a) (Int.toNat (w64 (i - (w64 (Int.tdiv n (64 : Int)))))) (0 : UInt64)) (UInt64.toNat ((UInt64.ofInt n) % (64 : UInt64))))))
        else none
      else none)
      else (some x_)) := by kernel_rfl
/-- moneyer/big.Left -/
def big_Left (k : Nat) (a : Vector UInt64 4) (n : Int) : Option (Vector UInt64 4) :=
  bif decide (n ≤ (0 : Int)) then (some a)
    else (bif decide ((256 : Int) ≤ n) then (some (Vector.replicate (4 : Nat) (0 : UInt64)))
      else (big_Left_h1 k n (3 : Int) a (Vector.replicate (4 : Nat) (0 : UInt64)) (Vector.replicate (4 : Nat) (0 : UInt64))))
theorem big_Left_q (k : Nat) (a : Vector UInt64 4) (n : Int) : big_Left k a n = (bif decide (n ≤ (0 : Int)) then (some a)
    else (bif decide ((256 : Int) ≤ n) then (some (Vector.replicate (4 : Nat) (0 : UInt64)))
      else (big_Left_h1 k n (3 : Int) a (Vector.replicate (4 : Nat) (0 : UInt64)) (Vector.replicate (4 : Nat) (0 : UInt64))))) := by kernel_rfl
theorem big_Left_spec (a : Vector UInt64 4) (n : Int) (h : -9223372036854775808 ≤ n ∧ n < 9223372036854775808) : ∃ k, big_Left k a n = some (uW (uV a * 2 ^ n.toNat)) := by
  show Ev (fun k => big_Left k a n) _
  refine Ev.same (fun k => big_Left_q k a n) ?_
  by_cases c0 : n ≤ 0
  · refine Ev.done0 fun k => ?_
    rw [bif_pos c0, show n.toNat = 0 by omega, Nat.pow_zero, Nat.mul_one, uW_uV]
  by_cases c1 : 256 ≤ n
  · refine Ev.done0 fun k => ?_
    rw [bif_neg c0, bif_pos c1]
    refine congrArg some (u_bit_ext fun i hi => ?_)
    rw [uV_rep, uW_bit, Nat.testBit_mul_two_pow, decide_eq_false (p := n.toNat ≤ i) (by omega), Bool.false_and, Bool.and_false, Nat.zero_testBit]
  obtain ⟨N, rfl⟩ : ∃ N : Nat, n = (N : Int) := ⟨n.toNat, by omega⟩
  have hN : N < 256 := by omega
  refine Ev.same (fun k => by rw [bif_neg c0, bif_neg c1]) ?_
  rw [Int.toNat_natCast]
  have := Ev.dwn (H := fun k i x => big_Left_h1 k (N : Int) (i + ((N / 64 : Nat) : Int)) a (Vector.replicate 4 0) x) (n := 4 - N / 64) (r := uW (uV a * 2 ^ N))
    (fun i x => ∀ j t, j < 4 → t < 64 → (gW x j).testBit t = (decide (i + N / 64 ≤ j) && (uV a * 2 ^ N).testBit (64 * j + t))) ?_ ?_ (4 - N / 64) (Vector.replicate 4 0) (Nat.le_refl _) ?_
  · rw [show ((4 - N / 64 : Nat) : Int) - 1 + ((N / 64 : Nat) : Int) = 3 by omega] at this
    exact this
  · intro i x hi hv next
    have ed : Int.tdiv ((N : Nat) : Int) 64 = ((N / 64 : Nat) : Int) := rfl
    have em : Int.tmod ((N : Nat) : Int) 64 = ((N % 64 : Nat) : Int) := rfl
    have hk : w64 (((i : Int) + ((N / 64 : Nat) : Int)) - ((N / 64 : Nat) : Int)) = (i : Int) := by rw [w64_id (by omega) (by omega)]; omega
    have hi4 : i + N / 64 < 4 := by omega
    have et : Int.toNat ((i : Int) + ((N / 64 : Nat) : Int)) = i + N / 64 := by omega
    have fin : ∀ w : UInt64, (∀ t, t < 64 → w.toNat.testBit t = ((decide (N % 64 ≤ t) && (gW a i).testBit (t - N % 64)) || (decide (0 < i ∧ N % 64 ≠ 0) && (gW a (i - 1)).testBit (t + (64 - N % 64))))) →
        ∀ j t, j < 4 → t < 64 → (gW (Vector.setIfInBounds x (i + N / 64) w) j).testBit t = (decide (i + N / 64 ≤ j) && (uV a * 2 ^ N).testBit (64 * j + t)) := by
      intro w hw j t hj ht
      rw [gW_set _ _ _ _ hi4]
      by_cases e : i + N / 64 = j
      · subst e
        have := left_word a N (i + N / 64) hN hj (by omega) t ht
        rw [show i + N / 64 - N / 64 = i by omega] at this
        rw [if_pos rfl, hw t ht, decide_eq_true (Nat.le_refl _), Bool.true_and, this]
      · rw [if_neg e, hv j t hj ht]
        congr 1
        rw [decide_eq_decide]; omega
    by_cases c2 : 0 < i ∧ N % 64 ≠ 0
    · refine Ev.step (fun k => ?_) (next (Vector.setIfInBounds x (i + N / 64) (shl_u64 (List.getD (Vector.toList a) i 0) (N % 64) ||| shr_u64 (List.getD (Vector.toList a) (i - 1) 0) (64 - N % 64))) (fin _ ?_))
      · rw [big_Left_h1_q, ed, w64_nat (a := N / 64) (by omega), bif_pos (by omega), hk, if_pos (by omega), if_pos (by omega), decide_eq_true (p := (0 : Int) < (i : Int)) (by omega), em, decide_eq_false (p := ((N % 64 : Nat) : Int) = 0) (by omega)]
        simp only [eqb, cond_true, Bool.not_false]
        rw [w64_id (x := (i : Int) - 1) (by omega) (by omega), if_pos (by omega), amount N hN, amount2 N hN, et, set_set, vget_set_eq _ _ _ (by omega), Int.toNat_natCast, show Int.toNat ((i : Int) - 1) = i - 1 by omega, w64_id (by omega) (by omega), show (i : Int) + ((N / 64 : Nat) : Int) - 1 = (i : Int) - 1 + ((N / 64 : Nat) : Int) by omega]
      · intro t ht
        rw [or_bit, shl_bit _ _ _ (by omega), shr_bit _ _ _ (by omega), decide_eq_true ht, Bool.true_and, gW_def, gW_def, decide_eq_true c2, Bool.true_and]
    · refine Ev.step (fun k => ?_) (next (Vector.setIfInBounds x (i + N / 64) (shl_u64 (List.getD (Vector.toList a) i 0) (N % 64))) (fin _ ?_))
      · rw [big_Left_h1_q, ed, w64_nat (a := N / 64) (by omega), bif_pos (by omega), hk, if_pos (by omega), if_pos (by omega), em]
        by_cases c3 : 0 < i
        · rw [decide_eq_true (p := (0 : Int) < (i : Int)) (by omega), decide_eq_true (p := ((N % 64 : Nat) : Int) = 0) (by omega)]
          simp only [eqb, cond_true, Bool.not_true, cond_false]
          rw [amount N hN, et, Int.toNat_natCast, w64_id (by omega) (by omega), show (i : Int) + ((N / 64 : Nat) : Int) - 1 = (i : Int) - 1 + ((N / 64 : Nat) : Int) by omega]
        · rw [decide_eq_false (p := (0 : Int) < (i : Int)) (by omega)]
          simp only [eqb, cond_false]
          rw [amount N hN, et, Int.toNat_natCast, w64_id (by omega) (by omega), show (i : Int) + ((N / 64 : Nat) : Int) - 1 = (i : Int) - 1 + ((N / 64 : Nat) : Int) by omega]
      · intro t ht
        rw [shl_bit _ _ _ (by omega), decide_eq_true ht, Bool.true_and, gW_def, decide_eq_false c2, Bool.false_and, Bool.or_false]
  · intro x hv
    refine Ev.done fun k => ?_
    show big_Left_h1 (k + 1) _ _ _ _ _ = _
    rw [big_Left_h1_q, show Int.tdiv ((N : Nat) : Int) 64 = ((N / 64 : Nat) : Int) from rfl, w64_nat (a := N / 64) (by omega), bif_neg (by omega)]
    refine congrArg some (vecI fun j t hj ht => ?_)
    rw [hv j t hj ht, Nat.testBit_mul_two_pow]
    by_cases c : N / 64 ≤ j
    · rw [decide_eq_true (by omega), Bool.true_and]
    · rw [decide_eq_false (by omega), decide_eq_false (by omega), Bool.false_and, Bool.false_and]
  · intro j t hj ht
    rw [gW_rep, decide_eq_false (by omega), Bool.false_and, Nat.zero_testBit]

end
end Go.Proofs.YtbdajagcinfeeaaDoor.M

namespace Go.Proofs.YtbdajagcinfeeaaDoor.M
open Go
noncomputable section
/-- the loop 0 of moneyer/big.OfHash -/
def big_OfHash_h0 : Nat → (Vector UInt8 32) → Int → (Vector UInt64 4) → (Vector UInt64 4) → Option (Vector UInt64 4)
  | 0, _, _, _, _ => none
  | k + 1, t6, t7, t2, a => bif decide (t7 < (32 : Int)) then (if ((0 : Int) ≤ t7) ∧ (t7 < (32 : Int)) then
        if ((0 : Int) ≤ (w64 (Int.tdiv t7 (8 : Int)))) ∧ ((w64 (Int.tdiv t7 (8 : Int))) < (4 : Int)) then
          big_OfHash_h0 k t6 (w64 (t7 + (1 : Int))) t2 (Vector.setIfInBounds a (Int.toNat (w64 (Int.tdiv t7 (8 : Int)))) ((List.getD (Vector.toList a) (Int.toNat (w64 (Int.tdiv t7 (8 : Int)))) (0 : UInt64)) ||| (shl_u64 (UInt8.toUInt64 (List.getD (Vector.toList t6) (Int.toNat t7) (0 : UInt8))) (UInt64.toNat ((8 : UInt64) * (UInt64.ofInt (Int.tmod t7 (8 : Int))))))))
        else none
      else none)
      else (some a)
theorem big_OfHash_h0_q (k : Nat) (t6 : Vector UInt8 32) (t7 : Int) (t2 : Vector UInt64 4) (a : Vector UInt64 4) : big_OfHash_h0 (k + 1) t6 t7 t2 a =
  (bif decide (t7 < (32 : Int)) then (if ((0 : Int) ≤ t7) ∧ (t7 < (32 : Int)) then
        if ((0 : Int) ≤ (w64 (Int.tdiv t7 (8 : Int)))) ∧ ((w64 (Int.tdiv t7 (8 : Int))) < (4 : Int)) then
          big_OfHash_h0 k t6 (w64 (t7 + (1 : Int))) t2 (Vector.setIfInBounds a (Int.toNat (w64 (Int.tdiv t7 (8 : Int)))) ((List.getD (Vector.toList a) (Int.toNat (w64 (Int.tdiv t7 (8 : Int)))) (0 : UInt64)) ||| (shl_u64 (UInt8.toUInt64 (List.getD (Vector.toList t6) (Int.toNat t7) (0 : UInt8))) (UInt64.toNat ((8 : UInt64) * (UInt64.ofInt (Int.tmod t7 (8 : Int))))))))
        else none
      else none)
      else (some a)) := by kernel_rfl
/-- moneyer/big.OfHash -/
def big_OfHash (k : Nat) (h_0 : Vector UInt8 32) : Option (Vector UInt64 4) :=
  big_OfHash_h0 k h_0 (0 : Int) (Vector.replicate (4 : Nat) (0 : UInt64)) (Vector.replicate (4 : Nat) (0 : UInt64))
theorem big_OfHash_q (k : Nat) (h_0 : Vector UInt8 32) : big_OfHash k h_0 = (big_OfHash_h0 k h_0 (0 : Int) (Vector.replicate (4 : Nat) (0 : UInt64)) (Vector.replicate (4 : Nat) (0 : UInt64))) := by kernel_rfl
theorem big_OfHash_spec0 (h : Vector UInt8 32) : ∃ k, big_OfHash k h = some (uW (numU (Vector.toList h))) := by
  show Ev (fun k => big_OfHash k h) _
  refine Ev.same (fun k => big_OfHash_q k h) ?_
  refine Ev.inv (H := fun k i a => big_OfHash_h0 k h i (Vector.replicate 4 0) a) (n := 32)
    (fun i a => ∀ j t, j < 4 → t < 64 → (gW a j).testBit t = (decide (8 * j + t / 8 < i) && (numU (Vector.toList h)).testBit (64 * j + t))) ?_ ?_ 32 0 _ rfl ?_
  · intro i a hi hv next
    have ed : Int.tdiv (i : Int) 8 = ((i / 8 : Nat) : Int) := rfl
    have em : Int.tmod (i : Int) 8 = ((i % 8 : Nat) : Int) := rfl
    have ha : UInt64.toNat ((8 : UInt64) * UInt64.ofInt ((i % 8 : Nat) : Int)) = 8 * (i % 8) := by
      rw [UInt64.toNat_mul, u64_ofInt (by omega), show (8 : UInt64).toNat = 8 from rfl]
      omega
    refine Ev.step (fun k => ?_) (next (Vector.setIfInBounds a (i / 8) (List.getD (Vector.toList a) (i / 8) 0 ||| shl_u64 (UInt8.toUInt64 (List.getD (Vector.toList h) i 0)) (8 * (i % 8)))) ?_)
    · rw [big_OfHash_h0_q, bif_pos (by omega), if_pos (by omega), ed, em, w64_nat (by omega), if_pos (by omega), ha, w64_id (by omega) (by omega), Int.toNat_natCast, Int.toNat_natCast]
    · intro j t hj ht
      rw [gW_set _ _ _ _ (by omega)]
      by_cases e : i / 8 = j
      · rw [if_pos e, or_bit, shl_bit _ _ _ (by omega), gW_def, e, hv j t hj ht, decide_eq_true ht, Bool.true_and, UInt8.toNat_toUInt64, numU_bit]
        by_cases c1 : 8 * j + t / 8 = i
        · rw [decide_eq_false (by omega), Bool.false_and, Bool.false_or, decide_eq_true (by omega), Bool.true_and, decide_eq_true (by omega), Bool.true_and]
          rw [show (64 * j + t) / 8 = i by omega]
          congr 1; omega
        · by_cases c2 : 8 * (i % 8) ≤ t
          · rw [b_bit_high _ (t - 8 * (i % 8)) (by omega), Bool.and_false, Bool.or_false]
            congr 1
            rw [decide_eq_decide]; omega
          · rw [decide_eq_false c2, Bool.false_and, Bool.or_false]
            congr 1
            rw [decide_eq_decide]; omega
      · rw [if_neg e, hv j t hj ht]
        congr 1
        rw [decide_eq_decide]; omega
  · intro a hv
    refine Ev.done fun k => ?_
    show big_OfHash_h0 (k + 1) _ _ _ _ = _
    rw [big_OfHash_h0_q, bif_neg (by omega)]
    refine congrArg some (vecI fun j t hj ht => ?_)
    rw [hv j t hj ht, decide_eq_true (by omega), Bool.true_and]
  · intro j t hj ht
    rw [gW_rep, decide_eq_false (by omega), Bool.false_and, Nat.zero_testBit]

theorem big_OfHash_spec (h : Vector UInt8 32) : ∃ k, big_OfHash k h = some (hashU h) := by
  rw [hashU_eq]
  exact big_OfHash_spec0 h

end
end Go.Proofs.YtbdajagcinfeeaaDoor.M

namespace Go.Proofs.YtbdajagcinfeeaaDoor.M
open Go
noncomputable section
/-- the loop 0 of moneyer/big.Sub -/
def big_Sub_h0 : Nat → UInt64 → Int → (Vector UInt64 4) → (Vector UInt64 4) → (Vector UInt64 4) → Option (Vector UInt64 4 × Bool)
  | 0, _, _, _, _, _ => none
  | k + 1, c, t8, a, b, t4 => bif decide (t8 < (4 : Int)) then (if ((0 : Int) ≤ t8) ∧ (t8 < (4 : Int)) then
        if (UInt64.toNat c) ≤ (1 : Nat) then
          big_Sub_h0 k (subHi (List.getD (Vector.toList a) (Int.toNat t8) (0 : UInt64)) (List.getD (Vector.toList b) (Int.toNat t8) (0 : UInt64)) c) (w64 (t8 + (1 : Int))) (Vector.setIfInBounds a (Int.toNat t8) (((List.getD (Vector.toList a) (Int.toNat t8) (0 : UInt64)) - (List.getD (Vector.toList b) (Int.toNat t8) (0 : UInt64))) - c)) b t4
        else none
      else none)
      else (some (a, (!(decide (c = (0 : UInt64))))))
theorem big_Sub_h0_q (k : Nat) (c : UInt64) (t8 : Int) (a : Vector UInt64 4) (b : Vector UInt64 4) (t4 : Vector UInt64 4) : big_Sub_h0 (k + 1) c t8 a b t4 =
  (bif decide (t8 < (4 : Int)) then (if ((0 : Int) ≤ t8) ∧ (t8 < (4 : Int)) then
        if (UInt64.toNat c) ≤ (1 : Nat) then
          big_Sub_h0 k (subHi (List.getD (Vector.toList a) (Int.toNat t8) (0 : UInt64)) (List.getD (Vector.toList b) (Int.toNat t8) (0 : UInt64)) c) (w64 (t8 + (1 : Int))) (Vector.setIfInBounds a (Int.toNat t8) (((List.getD (Vector.toList a) (Int.toNat t8) (0 : UInt64)) - (List.getD (Vector.toList b) (Int.toNat t8) (0 : UInt64))) - c)) b t4
        else none
      else none)
      else (some (a, (!(decide (c = (0 : UInt64))))))) := by kernel_rfl
/-- moneyer/big.Sub -/
def big_Sub (k : Nat) (a : Vector UInt64 4) (b : Vector UInt64 4) : Option (Vector UInt64 4 × Bool) :=
  big_Sub_h0 k (0 : UInt64) (0 : Int) a b (Vector.replicate (4 : Nat) (0 : UInt64))
theorem big_Sub_q (k : Nat) (a : Vector UInt64 4) (b : Vector UInt64 4) : big_Sub k a b = (big_Sub_h0 k (0 : UInt64) (0 : Int) a b (Vector.replicate (4 : Nat) (0 : UInt64))) := by kernel_rfl
theorem sub_mod {v A B k : Nat} (h : 115792089237316195423570985008687907853269984665640564039457584007913129639936 * k + A = v + B) (h1 : v < 115792089237316195423570985008687907853269984665640564039457584007913129639936) (h2 : A < 115792089237316195423570985008687907853269984665640564039457584007913129639936) (h3 : B < 115792089237316195423570985008687907853269984665640564039457584007913129639936) :
    v = (A + 115792089237316195423570985008687907853269984665640564039457584007913129639936 - B) % 115792089237316195423570985008687907853269984665640564039457584007913129639936 ∧ (¬ k = 0 ↔ A < B) := by
  omega
theorem sub4 (g0 g1 g2 g3 x0 x1 x2 x3 y0 y1 y2 y3 k1 k2 k3 k4 : Nat) (e1 : g0 + y0 + 0 = x0 + 18446744073709551616 * k1) (e2 : g1 + y1 + k1 = x1 + 18446744073709551616 * k2) (e3 : g2 + y2 + k2 = x2 + 18446744073709551616 * k3) (e4 : g3 + y3 + k3 = x3 + 18446744073709551616 * k4) :
    115792089237316195423570985008687907853269984665640564039457584007913129639936 * k4 + (x0 + 18446744073709551616 * (x1 + 18446744073709551616 * (x2 + 18446744073709551616 * x3))) = (g0 + 18446744073709551616 * (g1 + 18446744073709551616 * (g2 + 18446744073709551616 * g3))) + (y0 + 18446744073709551616 * (y1 + 18446744073709551616 * (y2 + 18446744073709551616 * y3))) := by
  omega
theorem big_Sub_spec0 (a b : Vector UInt64 4) : ∃ k, big_Sub k a b = some (subS a b) := by
  show Ev (fun k => big_Sub k a b) _
  refine Ev.same (fun k => big_Sub_q k a b) ?_
  have st : ∀ (i : Nat), i < 4 → ∀ (c : UInt64) (v : Vector UInt64 4), c.toNat ≤ 1 → ∀ f, big_Sub_h0 (f + 1) c (i : Int) v b (Vector.replicate 4 0) =
      big_Sub_h0 f (subHi (List.getD (Vector.toList v) i 0) (List.getD (Vector.toList b) i 0) c) ((i : Int) + 1) (Vector.setIfInBounds v i (List.getD (Vector.toList v) i 0 - List.getD (Vector.toList b) i 0 - c)) b (Vector.replicate 4 0) := by
    intro i hi c v hc f
    rw [big_Sub_h0_q, bif_pos (by omega), if_pos (by omega), if_pos hc, Int.toNat_natCast, w64_id (by omega) (by omega)]
  have hv : ∀ x y c : UInt64, c.toNat ≤ 1 → (subHi x y c).toNat = if x.toNat < y.toNat + c.toNat then 1 else 0 := by
    intro x y c hc
    unfold subHi
    split <;> rfl
  have hs : ∀ x y c : UInt64, (x - y - c).toNat = (x.toNat + 36893488147419103232 - y.toNat - c.toNat) % 18446744073709551616 := by
    intro x y c
    have := x.toNat_lt
    have := y.toNat_lt
    have := c.toNat_lt
    rw [UInt64.toNat_sub, UInt64.toNat_sub]; omega
  have c1 : ∀ x y c : UInt64, c.toNat ≤ 1 → (subHi x y c).toNat ≤ 1 := by
    intro x y c hc
    have := x.toNat_lt
    have := y.toNat_lt
    rw [hv x y c hc]; split <;> omega
  let x0 := List.getD (Vector.toList a) 0 0
  let x1 := List.getD (Vector.toList a) 1 0
  let x2 := List.getD (Vector.toList a) 2 0
  let x3 := List.getD (Vector.toList a) 3 0
  let y0 := List.getD (Vector.toList b) 0 0
  let y1 := List.getD (Vector.toList b) 1 0
  let y2 := List.getD (Vector.toList b) 2 0
  let y3 := List.getD (Vector.toList b) 3 0
  let k1 := subHi x0 y0 0
  let k2 := subHi x1 y1 k1
  let k3 := subHi x2 y2 k2
  let k4 := subHi x3 y3 k3
  have z0 : (0 : UInt64).toNat ≤ 1 := by decide
  have z1 := c1 x0 y0 0 z0
  have z2 := c1 x1 y1 k1 z1
  have z3 := c1 x2 y2 k2 z2
  let v1 := Vector.setIfInBounds a 0 (x0 - y0 - 0)
  let v2 := Vector.setIfInBounds v1 1 (x1 - y1 - k1)
  let v3 := Vector.setIfInBounds v2 2 (x2 - y2 - k2)
  let v4 := Vector.setIfInBounds v3 3 (x3 - y3 - k3)
  have g1 : List.getD (Vector.toList v1) 1 0 = x1 := by rw [vget_set _ _ _ _ _ (by omega), if_neg (by omega)]
  have g2 : List.getD (Vector.toList v2) 2 0 = x2 := by rw [vget_set _ _ _ _ _ (by omega), if_neg (by omega), vget_set _ _ _ _ _ (by omega), if_neg (by omega)]
  have g3 : List.getD (Vector.toList v3) 3 0 = x3 := by rw [vget_set _ _ _ _ _ (by omega), if_neg (by omega), vget_set _ _ _ _ _ (by omega), if_neg (by omega), vget_set _ _ _ _ _ (by omega), if_neg (by omega)]
  refine Ev.step (fun f => st 0 (by omega) 0 a z0 f) (Ev.step (fun f => st 1 (by omega) k1 v1 z1 f) ?_)
  rw [g1]
  refine Ev.step (fun f => st 2 (by omega) k2 v2 z2 f) ?_
  rw [g2]
  refine Ev.step (fun f => st 3 (by omega) k3 v3 z3 f) ?_
  rw [g3]
  refine Ev.done fun f => ?_
  show big_Sub_h0 (f + 1) k4 _ v4 b (Vector.replicate 4 0) = _
  rw [big_Sub_h0_q, bif_neg (by omega)]
  have w0 : gW v4 0 = (x0 - y0 - 0).toNat := by unfold gW; rw [vget_set _ _ _ _ _ (by omega), if_neg (by omega), vget_set _ _ _ _ _ (by omega), if_neg (by omega), vget_set _ _ _ _ _ (by omega), if_neg (by omega), vget_set _ _ _ _ _ (by omega), if_pos rfl]
  have w1 : gW v4 1 = (x1 - y1 - k1).toNat := by unfold gW; rw [vget_set _ _ _ _ _ (by omega), if_neg (by omega), vget_set _ _ _ _ _ (by omega), if_neg (by omega), vget_set _ _ _ _ _ (by omega), if_pos rfl]
  have w2 : gW v4 2 = (x2 - y2 - k2).toNat := by unfold gW; rw [vget_set _ _ _ _ _ (by omega), if_neg (by omega), vget_set _ _ _ _ _ (by omega), if_pos rfl]
  have w3 : gW v4 3 = (x3 - y3 - k3).toNat := by unfold gW; rw [vget_set _ _ _ _ _ (by omega), if_pos rfl]
  have word : ∀ x y c : UInt64, c.toNat ≤ 1 → (x - y - c).toNat + y.toNat + c.toNat = x.toNat + 18446744073709551616 * (subHi x y c).toNat := by
    intro x y c hc
    have lx := x.toNat_lt
    have ly := y.toNat_lt
    rw [hs, hv x y c hc]
    split <;> omega
  have e1 := word x0 y0 0 z0
  have e2 := word x1 y1 k1 z1
  have e3 := word x2 y2 k2 z2
  have e4 := word x3 y3 k3 z3
  rw [← w0, show (0 : UInt64).toNat = 0 from rfl] at e1
  rw [← w1] at e2
  rw [← w2] at e3
  rw [← w3] at e4
  have hval : 115792089237316195423570985008687907853269984665640564039457584007913129639936 * k4.toNat + uV a = uV v4 + uV b := sub4 (gW v4 0) (gW v4 1) (gW v4 2) (gW v4 3) x0.toNat x1.toNat x2.toNat x3.toNat y0.toNat y1.toNat y2.toNat y3.toNat k1.toNat k2.toNat k3.toNat k4.toNat e1 e2 e3 e4
  have hlt := uV_lt v4
  have hla := uV_lt a
  have hlb := uV_lt b
  have hk4 : (k4 = 0) ↔ k4.toNat = 0 := by rw [← UInt64.toNat_inj]; rfl
  have r := @sub_mod (uV v4) (uV a) (uV b) k4.toNat hval hlt hla hlb
  have fin : ∀ (v : Vector UInt64 4) (k : UInt64), ((k = 0) ↔ k.toNat = 0) → (uV v = (uV a + 115792089237316195423570985008687907853269984665640564039457584007913129639936 - uV b) % 115792089237316195423570985008687907853269984665640564039457584007913129639936 ∧ (¬ k.toNat = 0 ↔ uV a < uV b)) → (v, !decide (k = 0)) = subS a b := by
    intro v k hk r
    unfold subS
    refine Prod.ext (uV_inj ?_) ?_
    · show uV v = uV (uW _)
      rw [uV_uW]
      exact r.1
    · show (!decide (k = 0)) = decide _
      rw [← decide_not, decide_eq_decide, hk]
      exact r.2
  exact congrArg some (fin v4 k4 hk4 r)

theorem big_Sub_spec (a b : Vector UInt64 4) : ∃ k, big_Sub k a b = some (subV a b, subB a b) := by
  rw [subV_eq, subB_eq]
  exact big_Sub_spec0 a b

end
end Go.Proofs.YtbdajagcinfeeaaDoor.M

namespace Go.Proofs.YtbdajagcinfeeaaDoor.M
open Go
noncomputable section
/-- moneyer/big.Less -/
def big_Less (a : Vector UInt64 4) (b : Vector UInt64 4) : Bool :=
  (subB a b)
theorem big_Less_q (a : Vector UInt64 4) (b : Vector UInt64 4) : big_Less a b = ((subB a b)) := by kernel_rfl
theorem big_Less_spec (a b : Vector UInt64 4) : big_Less a b = subB a b := rfl

end
end Go.Proofs.YtbdajagcinfeeaaDoor.M

namespace Go.Proofs.YtbdajagcinfeeaaDoor.M
open Go
noncomputable section
set_option maxRecDepth 100000
set_option maxHeartbeats 0
noncomputable def big_Of_T : Tbl := []
noncomputable def big_Of_C : CfgW := mkC Tryd.prog theG big_Of_T 5 0 false
def big_Of_lv : Nat → List Nat := fun i => []
noncomputable abbrev big_Of_b : Code := Tryd.f68.body.getD .skip
noncomputable abbrev big_Of_r : List ResultVar := Tryd.f68.results.toList
def big_Of_hs : List Nat := []

def big_Of_enc (r : Vector UInt64 4) : CallOut := ⟨.pv (.arr .u64 4 r), [], true, []⟩
theorem big_Of_e (n : UInt64) (Q : CallOut → Prop) : evalFnP big_Of_C big_Of_lv big_Of_r big_Of_hs big_Of_b [.pv (.sc .u64 n)] [] Q =
    (Q (big_Of_enc (Vector.setIfInBounds (Vector.replicate (4 : Nat) (0 : UInt64)) (0 : Nat) n))) := by kernel_rfl
theorem big_Of_w (n : UInt64) {Q : CallOut → Prop} (h : Q (big_Of_enc (big_Of n))) : evalFnP big_Of_C big_Of_lv big_Of_r big_Of_hs big_Of_b [.pv (.sc .u64 n)] [] Q :=
  Eq.mpr (big_Of_e n Q) (have h := Eq.mp (congrArg (fun r => Q (big_Of_enc r)) (big_Of_q n)) h; h)
def big_Of_c : Ans
  | [.pv (.sc .u64 n)], [] => some (none, big_Of_enc (uW n.toNat))
  | _, _ => none
theorem big_Of_tok : TblOK Tryd.prog theG big_Of_T := .nil
theorem big_Of_ok : FnOK Tryd.prog theG 68 (unW big_Of_c) := by
  refine FnOK.ofC (T := big_Of_T) (nt := 5) (np := 0) (mv := []) (nf := false) (hs := big_Of_hs) (fn := Tryd.f68) (body := big_Of_b) big_Of_tok (by kernel_rfl) (by kernel_rfl) (by kernel_rfl) (by kernel_rfl) (c := big_Of_c) (lv := big_Of_lv) ?_
  intro xs mem p out h hp
  unfold big_Of_c at h
  split at h
  · cases h
    exact big_Of_w _ (congrArg big_Of_enc (big_Of_spec _))
  · cases h
end
end Go.Proofs.YtbdajagcinfeeaaDoor.M

namespace Go.Proofs.YtbdajagcinfeeaaDoor.M
open Go
noncomputable section
set_option maxRecDepth 100000
set_option maxHeartbeats 0
noncomputable def big_Right_T : Tbl := []
noncomputable def big_Right_C : CfgW := mkC Tryd.prog theG big_Right_T 59 0 false
def big_Right_lv : Nat → List Nat := fun i => bif Nat.beq i 1 then [1, 2, 4, 5, 6] else []
noncomputable abbrev big_Right_b : Code := Tryd.f69.body.getD .skip
noncomputable abbrev big_Right_r : List ResultVar := Tryd.f69.results.toList
def big_Right_hs : List Nat := []

def big_Right_enc (r : Vector UInt64 4) : CallOut := ⟨.pv (.arr .u64 4 r), [], true, []⟩
def big_Right_s1 (n : Int) (i : Int) (a : Vector UInt64 4) (t4 : Vector UInt64 4) (x_ : Vector UInt64 4) : St := ⟨[(1, .pv (.sc .i n)), (2, .p 60000 []), (4, .p 60001 []), (5, .p 60002 []), (6, .pv (.sc .i i))], [(60000, .box (.pv (.arr .u64 4 a))), (60001, .box (.pv (.arr .u64 4 t4))), (60002, .box (.pv (.arr .u64 4 x_)))]⟩
theorem big_Right_g1 (n : Int) (i : Int) (a : Vector UInt64 4) (t4 : Vector UInt64 4) (x_ : Vector UInt64 4) (Q : CallOut → Prop) : headRound big_Right_C big_Right_lv [true, true, true, false, true, false] big_Right_b (big_Right_s1 n i a t4 x_) (fnK big_Right_C big_Right_r big_Right_hs Q) =
    (((64 : Int) ≠ (0 : Int)) ∧ (condP (decide ((w64 (i + (w64 (Int.tdiv n (64 : Int))))) < (4 : Int))) (((64 : Int) ≠ (0 : Int)) ∧ ((((0 : Int) ≤ (w64 (i + (w64 (Int.tdiv n (64 : Int)))))) ∧ ((w64 (i + (w64 (Int.tdiv n (64 : Int))))) < (4 : Int))) ∧ (((64 : UInt64) ≠ (0 : UInt64)) ∧ ((((0 : Int) ≤ i) ∧ (i < (4 : Int))) ∧ (condP (eqb (decide ((w64 ((w64 (i + (w64 (Int.tdiv n (64 : Int))))) + (1 : Int))) < (4 : Int))) true) (((64 : Int) ≠ (0 : Int)) ∧ (condP (bif true then (!(decide ((Int.tmod n (64 : Int)) = (0 : Int)))) else false) ((((0 : Int) ≤ i) ∧ (i < (4 : Int))) ∧ ((((0 : Int) ≤ (w64 ((w64 (i + (w64 (Int.tdiv n (64 : Int))))) + (1 : Int)))) ∧ ((w64 ((w64 (i + (w64 (Int.tdiv n (64 : Int))))) + (1 : Int))) < (4 : Int))) ∧ (((64 : UInt64) ≠ (0 : UInt64)) ∧ ((((0 : Int) ≤ i) ∧ (i < (4 : Int))) ∧ (headP big_Right_C big_Right_lv [true, true, true, false, true, false] big_Right_b (big_Right_s1 n (w64 (i + (1 : Int))) a t4 (Vector.setIfInBounds (Vector.setIfInBounds x_ (Int.toNat i) (shr_u64 (List.getD (Vector.toList a) (Int.toNat (w64 (i + (w64 (Int.tdiv n (64 : Int)))))) (0 : UInt64)) (UInt64.toNat ((UInt64.ofInt n) % (64 : UInt64))))) (Int.toNat i) ((List.getD (Vector.toList (Vector.setIfInBounds x_ (Int.toNat i) (shr_u64 (List.getD (Vector.toList a) (Int.toNat (w64 (i + (w64 (Int.tdiv n (64 : Int)))))) (0 : UInt64)) (UInt64.toNat ((UInt64.ofInt n) % (64 : UInt64)))))) (Int.toNat i) (0 : UInt64)) ||| (shl_u64 (List.getD (Vector.toList a) (Int.toNat (w64 ((w64 (i + (w64 (Int.tdiv n (64 : Int))))) + (1 : Int)))) (0 : UInt64)) (UInt64.toNat ((64 : UInt64) - ((UInt64.ofInt n) % (64 : UInt64)))))))) (fnK big_Right_C big_Right_r big_Right_hs Q)))))) (headP big_Right_C big_Right_lv [true, true, true, false, true, false] big_Right_b (big_Right_s1 n (w64 (i + (1 : Int))) a t4 (Vector.setIfInBounds x_ (Int.toNat i) (shr_u64 (List.getD (Vector.toList a) (Int.toNat (w64 (i + (w64 (Int.tdiv n (64 : Int)))))) (0 : UInt64)) (UInt64.toNat ((UInt64.ofInt n) % (64 : UInt64)))))) (fnK big_Right_C big_Right_r big_Right_hs Q)))) (headP big_Right_C big_Right_lv [true, true, true, false, true, false] big_Right_b (big_Right_s1 n (w64 (i + (1 : Int))) a t4 (Vector.setIfInBounds x_ (Int.toNat i) (shr_u64 (List.getD (Vector.toList a) (Int.toNat (w64 (i + (w64 (Int.tdiv n (64 : Int)))))) (0 : UInt64)) (UInt64.toNat ((UInt64.ofInt n) % (64 : UInt64)))))) (fnK big_Right_C big_Right_r big_Right_hs Q))))))) (Q (big_Right_enc x_)))) := by kernel_rfl
theorem big_Right_k1 {r : Vector UInt64 4} {Q : CallOut → Prop} (hQ : Q (big_Right_enc r)) : ∀ k : Nat, (∀ (n : Int) (i : Int) (a : Vector UInt64 4) (t4 : Vector UInt64 4) (x_ : Vector UInt64 4), big_Right_h1 k n i a t4 x_ = some r → headP big_Right_C big_Right_lv [true, true, true, false, true, false] big_Right_b (big_Right_s1 n i a t4 x_) (fnK big_Right_C big_Right_r big_Right_hs Q))
  | 0 => fun _ _ _ _ _ h => no_ok h
  | k + 1 => fun n i a t4 x_ h => headP_step (Eq.mpr (big_Right_g1 n i a t4 x_ Q) (have h := (big_Right_h1_q k n i a t4 x_).symm.trans h; ⟨by decide +kernel, cond_ok h (fun h => ⟨by decide +kernel, ite_ok h fun hc0 h => ⟨by decide +kernel, ite_ok h fun hc1 h => cond_ok h (fun h => ⟨by decide +kernel, cond_ok h (fun h => ⟨hc1, ite_ok h fun hc2 h => ⟨by decide +kernel, ⟨hc1, (big_Right_k1 hQ k) _ _ _ _ _ h⟩⟩⟩) (fun h => (big_Right_k1 hQ k) _ _ _ _ _ h)⟩) (fun h => (big_Right_k1 hQ k) _ _ _ _ _ h)⟩⟩) (fun h => ret_ok (Q := Q) (e := big_Right_enc) h hQ)⟩))
theorem big_Right_e (a : Vector UInt64 4) (n : Int) (Q : CallOut → Prop) : evalFnP big_Right_C big_Right_lv big_Right_r big_Right_hs big_Right_b [.pv (.arr .u64 4 a), .pv (.sc .i n)] [] Q =
    (condP (decide (n ≤ (0 : Int))) (Q (big_Right_enc a)) (condP (decide ((256 : Int) ≤ n)) (Q (big_Right_enc (Vector.replicate (4 : Nat) (0 : UInt64)))) (headP big_Right_C big_Right_lv [true, true, true, false, true, false] big_Right_b (big_Right_s1 n (0 : Int) a (Vector.replicate (4 : Nat) (0 : UInt64)) (Vector.replicate (4 : Nat) (0 : UInt64))) (fnK big_Right_C big_Right_r big_Right_hs Q)))) := by kernel_rfl
theorem big_Right_w {k : Nat} (a : Vector UInt64 4) (n : Int) {r} {Q : CallOut → Prop} (h : big_Right k a n = some r) (hQ : Q (big_Right_enc r)) : evalFnP big_Right_C big_Right_lv big_Right_r big_Right_hs big_Right_b [.pv (.arr .u64 4 a), .pv (.sc .i n)] [] Q :=
  Eq.mpr (big_Right_e a n Q) (have h := (big_Right_q k a n).symm.trans h; cond_ok h (fun h => ret_ok (Q := Q) (e := big_Right_enc) h hQ) (fun h => cond_ok h (fun h => ret_ok (Q := Q) (e := big_Right_enc) h hQ) (fun h => (big_Right_k1 hQ _) _ _ _ _ _ h)))
def big_Right_c : Ans
  | [.pv (.arr .u64 4 a), .pv (.sc .i n)], [] => some (some (-9223372036854775808 ≤ n ∧ n < 9223372036854775808), big_Right_enc (uW (uV a / 2 ^ n.toNat)))
  | _, _ => none
theorem big_Right_tok : TblOK Tryd.prog theG big_Right_T := .nil
theorem big_Right_ok : FnOK Tryd.prog theG 69 (unW big_Right_c) := by
  refine FnOK.ofC (T := big_Right_T) (nt := 59) (np := 0) (mv := []) (nf := false) (hs := big_Right_hs) (fn := Tryd.f69) (body := big_Right_b) big_Right_tok (by kernel_rfl) (by kernel_rfl) (by kernel_rfl) (by kernel_rfl) (c := big_Right_c) (lv := big_Right_lv) ?_
  intro xs mem p out h hp
  unfold big_Right_c at h
  split at h
  · cases h
    obtain ⟨k, hk⟩ := big_Right_spec _ _ hp
    exact big_Right_w _ _ hk rfl
  · cases h
end
end Go.Proofs.YtbdajagcinfeeaaDoor.M

namespace Go.Proofs.YtbdajagcinfeeaaDoor.M
open Go
noncomputable section
set_option maxRecDepth 100000
set_option maxHeartbeats 0
noncomputable def big_Len_T : Tbl := [(86, [], bits_Len64_c)]
noncomputable def big_Len_C : CfgW := mkC Tryd.prog theG big_Len_T 19 0 false
def big_Len_lv : Nat → List Nat := fun i => bif Nat.beq i 0 then [1, 3] else []
noncomputable abbrev big_Len_b : Code := Tryd.f70.body.getD .skip
noncomputable abbrev big_Len_r : List ResultVar := Tryd.f70.results.toList
def big_Len_hs : List Nat := []

def big_Len_enc (r : Int) : CallOut := ⟨.pv (.sc .i r), [], true, []⟩
def big_Len_s0 (i : Int) (a : Vector UInt64 4) : St := ⟨[(1, .p 60000 []), (3, .pv (.sc .i i))], [(60000, .box (.pv (.arr .u64 4 a)))]⟩
theorem big_Len_g0 (i : Int) (a : Vector UInt64 4) (Q : CallOut → Prop) : headRound big_Len_C big_Len_lv [true, false, true, false] big_Len_b (big_Len_s0 i a) (fnK big_Len_C big_Len_r big_Len_hs Q) =
    (condP (decide ((0 : Int) ≤ i)) ((((0 : Int) ≤ i) ∧ (i < (4 : Int))) ∧ (condP (!(decide ((List.getD (Vector.toList a) (Int.toNat i) (0 : UInt64)) = (0 : UInt64)))) ((((0 : Int) ≤ i) ∧ (i < (4 : Int))) ∧ (Q (big_Len_enc (w64 ((w64 (i * (64 : Int))) + (((lenN (UInt64.toNat (List.getD (Vector.toList a) (Int.toNat i) (0 : UInt64)))) : Nat) : Int)))))) (headP big_Len_C big_Len_lv [true, false, true, false] big_Len_b (big_Len_s0 (w64 (i - (1 : Int))) a) (fnK big_Len_C big_Len_r big_Len_hs Q)))) (Q (big_Len_enc (0 : Int)))) := by kernel_rfl
theorem big_Len_k0 {r : Int} {Q : CallOut → Prop} (hQ : Q (big_Len_enc r)) : ∀ k : Nat, (∀ (i : Int) (a : Vector UInt64 4), big_Len_h0 k i a = some r → headP big_Len_C big_Len_lv [true, false, true, false] big_Len_b (big_Len_s0 i a) (fnK big_Len_C big_Len_r big_Len_hs Q))
  | 0 => fun _ _ h => no_ok h
  | k + 1 => fun i a h => headP_step (Eq.mpr (big_Len_g0 i a Q) (have h := (big_Len_h0_q k i a).symm.trans h; cond_ok h (fun h => ite_ok h fun hc0 h => cond_ok h (fun h => ⟨hc0, ret_ok (Q := Q) (e := big_Len_enc) h hQ⟩) (fun h => (big_Len_k0 hQ k) _ _ h)) (fun h => ret_ok (Q := Q) (e := big_Len_enc) h hQ)))
theorem big_Len_e (a : Vector UInt64 4) (Q : CallOut → Prop) : evalFnP big_Len_C big_Len_lv big_Len_r big_Len_hs big_Len_b [.pv (.arr .u64 4 a)] [] Q =
    (headP big_Len_C big_Len_lv [true, false, true, false] big_Len_b (big_Len_s0 (3 : Int) a) (fnK big_Len_C big_Len_r big_Len_hs Q)) := by kernel_rfl
theorem big_Len_w {k : Nat} (a : Vector UInt64 4) {r} {Q : CallOut → Prop} (h : big_Len k a = some r) (hQ : Q (big_Len_enc r)) : evalFnP big_Len_C big_Len_lv big_Len_r big_Len_hs big_Len_b [.pv (.arr .u64 4 a)] [] Q :=
  Eq.mpr (big_Len_e a Q) (have h := (big_Len_q k a).symm.trans h; (big_Len_k0 hQ _) _ _ h)
def big_Len_c : Ans
  | [.pv (.arr .u64 4 a)], [] => some (none, big_Len_enc ((((lenN (uV a)) : Nat) : Int)))
  | _, _ => none
theorem big_Len_tok : TblOK Tryd.prog theG big_Len_T := .cons ⟨by kernel_rfl, bits_Len64_ok⟩ (.nil)
theorem big_Len_ok : FnOK Tryd.prog theG 70 (unW big_Len_c) := by
  refine FnOK.ofC (T := big_Len_T) (nt := 19) (np := 0) (mv := []) (nf := false) (hs := big_Len_hs) (fn := Tryd.f70) (body := big_Len_b) big_Len_tok (by kernel_rfl) (by kernel_rfl) (by kernel_rfl) (by kernel_rfl) (c := big_Len_c) (lv := big_Len_lv) ?_
  intro xs mem p out h hp
  unfold big_Len_c at h
  split at h
  · cases h
    obtain ⟨k, hk⟩ := big_Len_spec _
    exact big_Len_w _ hk rfl
  · cases h
end
end Go.Proofs.YtbdajagcinfeeaaDoor.M

namespace Go.Proofs.YtbdajagcinfeeaaDoor.M
open Go
noncomputable section
set_option maxRecDepth 100000
set_option maxHeartbeats 0
noncomputable def big_Left_T : Tbl := []
noncomputable def big_Left_C : CfgW := mkC Tryd.prog theG big_Left_T 57 0 false
def big_Left_lv : Nat → List Nat := fun i => bif Nat.beq i 1 then [1, 2, 4, 5, 6] else []
noncomputable abbrev big_Left_b : Code := Tryd.f71.body.getD .skip
noncomputable abbrev big_Left_r : List ResultVar := Tryd.f71.results.toList
def big_Left_hs : List Nat := []

def big_Left_enc (r : Vector UInt64 4) : CallOut := ⟨.pv (.arr .u64 4 r), [], true, []⟩
def big_Left_s1 (n : Int) (i : Int) (a : Vector UInt64 4) (t4 : Vector UInt64 4) (x_ : Vector UInt64 4) : St := ⟨[(1, .pv (.sc .i n)), (2, .p 60000 []), (4, .p 60001 []), (5, .p 60002 []), (6, .pv (.sc .i i))], [(60000, .box (.pv (.arr .u64 4 a))), (60001, .box (.pv (.arr .u64 4 t4))), (60002, .box (.pv (.arr .u64 4 x_)))]⟩
theorem big_Left_g1 (n : Int) (i : Int) (a : Vector UInt64 4) (t4 : Vector UInt64 4) (x_ : Vector UInt64 4) (Q : CallOut → Prop) : headRound big_Left_C big_Left_lv [true, true, true, false, true, false] big_Left_b (big_Left_s1 n i a t4 x_) (fnK big_Left_C big_Left_r big_Left_hs Q) =
    (((64 : Int) ≠ (0 : Int)) ∧ (condP (decide ((w64 (Int.tdiv n (64 : Int))) ≤ i)) (((64 : Int) ≠ (0 : Int)) ∧ ((((0 : Int) ≤ (w64 (i - (w64 (Int.tdiv n (64 : Int)))))) ∧ ((w64 (i - (w64 (Int.tdiv n (64 : Int))))) < (4 : Int))) ∧ (((64 : UInt64) ≠ (0 : UInt64)) ∧ ((((0 : Int) ≤ i) ∧ (i < (4 : Int))) ∧ (condP (eqb (decide ((0 : Int) < (w64 (i - (w64 (Int.tdiv n (64 : Int))))))) true) (((64 : Int) ≠ (0 : Int)) ∧ (condP (bif true then (!(decide ((Int.tmod n (64 : Int)) = (0 : Int)))) else false) ((((0 : Int) ≤ i) ∧ (i < (4 : Int))) ∧ ((((0 : Int) ≤ (w64 ((w64 (i - (w64 (Int.tdiv n (64 : Int))))) - (1 : Int)))) ∧ ((w64 ((w64 (i - (w64 (Int.tdiv n (64 : Int))))) - (1 : Int))) < (4 : Int))) ∧ (((64 : UInt64) ≠ (0 : UInt64)) ∧ ((((0 : Int) ≤ i) ∧ (i < (4 : Int))) ∧ (headP big_Left_C big_Left_lv [true, true, true, false, true, false] big_Left_b (big_Left_s1 n (w64 (i - (1 : Int))) a t4 (Vector.setIfInBounds (Vector.setIfInBounds x_ (Int.toNat i) (shl_u64 (List.getD (Vector.toList a) (Int.toNat (w64 (i - (w64 (Int.tdiv n (64 : Int)))))) (0 : UInt64)) (UInt64.toNat ((UInt64.ofInt n) % (64 : UInt64))))) (Int.toNat i) ((List.getD (Vector.toList (Vector.setIfInBounds x_ (Int.toNat i) (shl_u64 (List.getD (Vector.toList a) (Int.toNat (w64 (i - (w64 (Int.tdiv n (64 : Int)))))) (0 : UInt64)) (UInt64.toNat ((UInt64.ofInt n) % (64 : UInt64)))))) (Int.toNat i) (0 : UInt64)) ||| (shr_u64 (List.getD (Vector.toList a) (Int.toNat (w64 ((w64 (i - (w64 (Int.tdiv n (64 : Int))))) - (1 : Int)))) (0 : UInt64)) (UInt64.toNat ((64 : UInt64) - ((UInt64.ofInt n) % (64 : UInt64)))))))) (fnK big_Left_C big_Left_r big_Left_hs Q)))))) (headP big_Left_C big_Left_lv [true, true, true, false, true, false] big_Left_b (big_Left_s1 n (w64 (i - (1 : Int))) a t4 (Vector.setIfInBounds x_ (Int.toNat i) (shl_u64 (List.getD (Vector.toList a) (Int.toNat (w64 (i - (w64 (Int.tdiv n (64 : Int)))))) (0 : UInt64)) (UInt64.toNat ((UInt64.ofInt n) % (64 : UInt64)))))) (fnK big_Left_C big_Left_r big_Left_hs Q)))) (headP big_Left_C big_Left_lv [true, true, true, false, true, false] big_Left_b (big_Left_s1 n (w64 (i - (1 : Int))) a t4 (Vector.setIfInBounds x_ (Int.toNat i) (shl_u64 (List.getD (Vector.toList a) (Int.toNat (w64 (i - (w64 (Int.tdiv n (64 : Int)))))) (0 : UInt64)) (UInt64.toNat ((UInt64.ofInt n) % (64 : UInt64)))))) (fnK big_Left_C big_Left_r big_Left_hs Q))))))) (Q (big_Left_enc x_)))) := by kernel_rfl
theorem big_Left_k1 {r : Vector UInt64 4} {Q : CallOut → Prop} (hQ : Q (big_Left_enc r)) : ∀ k : Nat, (∀ (n : Int) (i : Int) (a : Vector UInt64 4) (t4 : Vector UInt64 4) (x_ : Vector UInt64 4), big_Left_h1 k n i a t4 x_ = some r → headP big_Left_C big_Left_lv [true, true, true, false, true, false] big_Left_b (big_Left_s1 n i a t4 x_) (fnK big_Left_C big_Left_r big_Left_hs Q))
  | 0 => fun _ _ _ _ _ h => no_ok h
  | k + 1 => fun n i a t4 x_ h => headP_step (Eq.mpr (big_Left_g1 n i a t4 x_ Q) (have h := (big_Left_h1_q k n i a t4 x_).symm.trans h; ⟨by decide +kernel, cond_ok h (fun h => ⟨by decide +kernel, ite_ok h fun hc0 h => ⟨by decide +kernel, ite_ok h fun hc1 h => cond_ok h (fun h => ⟨by decide +kernel, cond_ok h (fun h => ⟨hc1, ite_ok h fun hc2 h => ⟨by decide +kernel, ⟨hc1, (big_Left_k1 hQ k) _ _ _ _ _ h⟩⟩⟩) (fun h => (big_Left_k1 hQ k) _ _ _ _ _ h)⟩) (fun h => (big_Left_k1 hQ k) _ _ _ _ _ h)⟩⟩) (fun h => ret_ok (Q := Q) (e := big_Left_enc) h hQ)⟩))
theorem big_Left_e (a : Vector UInt64 4) (n : Int) (Q : CallOut → Prop) : evalFnP big_Left_C big_Left_lv big_Left_r big_Left_hs big_Left_b [.pv (.arr .u64 4 a), .pv (.sc .i n)] [] Q =
    (condP (decide (n ≤ (0 : Int))) (Q (big_Left_enc a)) (condP (decide ((256 : Int) ≤ n)) (Q (big_Left_enc (Vector.replicate (4 : Nat) (0 : UInt64)))) (headP big_Left_C big_Left_lv [true, true, true, false, true, false] big_Left_b (big_Left_s1 n (3 : Int) a (Vector.replicate (4 : Nat) (0 : UInt64)) (Vector.replicate (4 : Nat) (0 : UInt64))) (fnK big_Left_C big_Left_r big_Left_hs Q)))) := by kernel_rfl
theorem big_Left_w {k : Nat} (a : Vector UInt64 4) (n : Int) {r} {Q : CallOut → Prop} (h : big_Left k a n = some r) (hQ : Q (big_Left_enc r)) : evalFnP big_Left_C big_Left_lv big_Left_r big_Left_hs big_Left_b [.pv (.arr .u64 4 a), .pv (.sc .i n)] [] Q :=
  Eq.mpr (big_Left_e a n Q) (have h := (big_Left_q k a n).symm.trans h; cond_ok h (fun h => ret_ok (Q := Q) (e := big_Left_enc) h hQ) (fun h => cond_ok h (fun h => ret_ok (Q := Q) (e := big_Left_enc) h hQ) (fun h => (big_Left_k1 hQ _) _ _ _ _ _ h)))
def big_Left_c : Ans
  | [.pv (.arr .u64 4 a), .pv (.sc .i n)], [] => some (some (-9223372036854775808 ≤ n ∧ n < 9223372036854775808), big_Left_enc (uW (uV a * 2 ^ n.toNat)))
  | _, _ => none
theorem big_Left_tok : TblOK Tryd.prog theG big_Left_T := .nil
theorem big_Left_ok : FnOK Tryd.prog theG 71 (unW big_Left_c) := by
  refine FnOK.ofC (T := big_Left_T) (nt := 57) (np := 0) (mv := []) (nf := false) (hs := big_Left_hs) (fn := Tryd.f71) (body := big_Left_b) big_Left_tok (by kernel_rfl) (by kernel_rfl) (by kernel_rfl) (by kernel_rfl) (c := big_Left_c) (lv := big_Left_lv) ?_
  intro xs mem p out h hp
  unfold big_Left_c at h
  split at h
  · cases h
    obtain ⟨k, hk⟩ := big_Left_spec _ _ hp
    exact big_Left_w _ _ hk rfl
  · cases h
end
end Go.Proofs.YtbdajagcinfeeaaDoor.M

namespace Go.Proofs.YtbdajagcinfeeaaDoor.M
open Go
noncomputable section
set_option maxRecDepth 100000
set_option maxHeartbeats 0
noncomputable def big_OfHash_T : Tbl := []
noncomputable def big_OfHash_C : CfgW := mkC Tryd.prog theG big_OfHash_T 26 0 false
def big_OfHash_lv : Nat → List Nat := fun i => bif Nat.beq i 0 then [2, 3, 6, 7] else []
noncomputable abbrev big_OfHash_b : Code := Tryd.f64.body.getD .skip
noncomputable abbrev big_OfHash_r : List ResultVar := Tryd.f64.results.toList
def big_OfHash_hs : List Nat := []

def big_OfHash_enc (r : Vector UInt64 4) : CallOut := ⟨.pv (.arr .u64 4 r), [], true, []⟩
def big_OfHash_s0 (t6 : Vector UInt8 32) (t7 : Int) (t2 : Vector UInt64 4) (a : Vector UInt64 4) : St := ⟨[(2, .p 60000 []), (3, .p 60001 []), (6, .pv (.arr .u8 32 t6)), (7, .pv (.sc .i t7))], [(60000, .box (.pv (.arr .u64 4 t2))), (60001, .box (.pv (.arr .u64 4 a)))]⟩
theorem big_OfHash_g0 (t6 : Vector UInt8 32) (t7 : Int) (t2 : Vector UInt64 4) (a : Vector UInt64 4) (Q : CallOut → Prop) : headRound big_OfHash_C big_OfHash_lv [true, true, false, true, false] big_OfHash_b (big_OfHash_s0 t6 t7 t2 a) (fnK big_OfHash_C big_OfHash_r big_OfHash_hs Q) =
    (condP (decide (t7 < (32 : Int))) ((((0 : Int) ≤ t7) ∧ (t7 < (32 : Int))) ∧ (((8 : Int) ≠ (0 : Int)) ∧ ((((0 : Int) ≤ (w64 (Int.tdiv t7 (8 : Int)))) ∧ ((w64 (Int.tdiv t7 (8 : Int))) < (4 : Int))) ∧ (((8 : Int) ≠ (0 : Int)) ∧ ((((0 : Int) ≤ (w64 (Int.tdiv t7 (8 : Int)))) ∧ ((w64 (Int.tdiv t7 (8 : Int))) < (4 : Int))) ∧ (headP big_OfHash_C big_OfHash_lv [true, true, false, true, false] big_OfHash_b (big_OfHash_s0 t6 (w64 (t7 + (1 : Int))) t2 (Vector.setIfInBounds a (Int.toNat (w64 (Int.tdiv t7 (8 : Int)))) ((List.getD (Vector.toList a) (Int.toNat (w64 (Int.tdiv t7 (8 : Int)))) (0 : UInt64)) ||| (shl_u64 (UInt8.toUInt64 (List.getD (Vector.toList t6) (Int.toNat t7) (0 : UInt8))) (UInt64.toNat ((8 : UInt64) * (UInt64.ofInt (Int.tmod t7 (8 : Int))))))))) (fnK big_OfHash_C big_OfHash_r big_OfHash_hs Q))))))) (Q (big_OfHash_enc a))) := by kernel_rfl
theorem big_OfHash_k0 {r : Vector UInt64 4} {Q : CallOut → Prop} (hQ : Q (big_OfHash_enc r)) : ∀ k : Nat, (∀ (t6 : Vector UInt8 32) (t7 : Int) (t2 : Vector UInt64 4) (a : Vector UInt64 4), big_OfHash_h0 k t6 t7 t2 a = some r → headP big_OfHash_C big_OfHash_lv [true, true, false, true, false] big_OfHash_b (big_OfHash_s0 t6 t7 t2 a) (fnK big_OfHash_C big_OfHash_r big_OfHash_hs Q))
  | 0 => fun _ _ _ _ h => no_ok h
  | k + 1 => fun t6 t7 t2 a h => headP_step (Eq.mpr (big_OfHash_g0 t6 t7 t2 a Q) (have h := (big_OfHash_h0_q k t6 t7 t2 a).symm.trans h; cond_ok h (fun h => ite_ok h fun hc0 h => ⟨by decide +kernel, ite_ok h fun hc1 h => ⟨by decide +kernel, ⟨hc1, (big_OfHash_k0 hQ k) _ _ _ _ h⟩⟩⟩) (fun h => ret_ok (Q := Q) (e := big_OfHash_enc) h hQ)))
theorem big_OfHash_e (h_0 : Vector UInt8 32) (Q : CallOut → Prop) : evalFnP big_OfHash_C big_OfHash_lv big_OfHash_r big_OfHash_hs big_OfHash_b [.pv (.arr .u8 32 h_0)] [] Q =
    (headP big_OfHash_C big_OfHash_lv [true, true, false, true, false] big_OfHash_b (big_OfHash_s0 h_0 (0 : Int) (Vector.replicate (4 : Nat) (0 : UInt64)) (Vector.replicate (4 : Nat) (0 : UInt64))) (fnK big_OfHash_C big_OfHash_r big_OfHash_hs Q)) := by kernel_rfl
theorem big_OfHash_w {k : Nat} (h_0 : Vector UInt8 32) {r} {Q : CallOut → Prop} (h : big_OfHash k h_0 = some r) (hQ : Q (big_OfHash_enc r)) : evalFnP big_OfHash_C big_OfHash_lv big_OfHash_r big_OfHash_hs big_OfHash_b [.pv (.arr .u8 32 h_0)] [] Q :=
  Eq.mpr (big_OfHash_e h_0 Q) (have h := (big_OfHash_q k h_0).symm.trans h; (big_OfHash_k0 hQ _) _ _ _ _ h)
def big_OfHash_c : Ans
  | [.pv (.arr .u8 32 h_0)], [] => some (none, big_OfHash_enc (hashU h_0))
  | _, _ => none
theorem big_OfHash_tok : TblOK Tryd.prog theG big_OfHash_T := .nil
theorem big_OfHash_ok : FnOK Tryd.prog theG 64 (unW big_OfHash_c) := by
  refine FnOK.ofC (T := big_OfHash_T) (nt := 26) (np := 0) (mv := []) (nf := false) (hs := big_OfHash_hs) (fn := Tryd.f64) (body := big_OfHash_b) big_OfHash_tok (by kernel_rfl) (by kernel_rfl) (by kernel_rfl) (by kernel_rfl) (c := big_OfHash_c) (lv := big_OfHash_lv) ?_
  intro xs mem p out h hp
  unfold big_OfHash_c at h
  split at h
  · cases h
    obtain ⟨k, hk⟩ := big_OfHash_spec _
    exact big_OfHash_w _ hk rfl
  · cases h
end
end Go.Proofs.YtbdajagcinfeeaaDoor.M

namespace Go.Proofs.YtbdajagcinfeeaaDoor.M
open Go
noncomputable section
set_option maxRecDepth 100000
set_option maxHeartbeats 0
noncomputable def big_Sub_T : Tbl := []
noncomputable def big_Sub_C : CfgW := mkC Tryd.prog theG big_Sub_T 28 0 false
def big_Sub_lv : Nat → List Nat := fun i => bif Nat.beq i 0 then [2, 3, 4, 6, 8] else []
noncomputable abbrev big_Sub_b : Code := Tryd.f84.body.getD .skip
noncomputable abbrev big_Sub_r : List ResultVar := Tryd.f84.results.toList
def big_Sub_hs : List Nat := []

def big_Sub_enc (r : Vector UInt64 4 × Bool) : CallOut := ⟨.tup [.pv (.arr .u64 4 r.1), .pv (.sc .b r.2)], [], true, []⟩
def big_Sub_s0 (c : UInt64) (t8 : Int) (a : Vector UInt64 4) (b : Vector UInt64 4) (t4 : Vector UInt64 4) : St := ⟨[(2, .p 60000 []), (3, .p 60001 []), (4, .p 60002 []), (6, .pv (.sc .u64 c)), (8, .pv (.sc .i t8))], [(60000, .box (.pv (.arr .u64 4 a))), (60001, .box (.pv (.arr .u64 4 b))), (60002, .box (.pv (.arr .u64 4 t4)))]⟩
theorem big_Sub_g0 (c : UInt64) (t8 : Int) (a : Vector UInt64 4) (b : Vector UInt64 4) (t4 : Vector UInt64 4) (Q : CallOut → Prop) : headRound big_Sub_C big_Sub_lv [true, true, false, true, false] big_Sub_b (big_Sub_s0 c t8 a b t4) (fnK big_Sub_C big_Sub_r big_Sub_hs Q) =
    (condP (decide (t8 < (4 : Int))) ((((0 : Int) ≤ t8) ∧ (t8 < (4 : Int))) ∧ ((((0 : Int) ≤ t8) ∧ (t8 < (4 : Int))) ∧ (((UInt64.toNat c) ≤ (1 : Nat)) ∧ ((((0 : Int) ≤ t8) ∧ (t8 < (4 : Int))) ∧ (headP big_Sub_C big_Sub_lv [true, true, false, true, false] big_Sub_b (big_Sub_s0 (subHi (List.getD (Vector.toList a) (Int.toNat t8) (0 : UInt64)) (List.getD (Vector.toList b) (Int.toNat t8) (0 : UInt64)) c) (w64 (t8 + (1 : Int))) (Vector.setIfInBounds a (Int.toNat t8) (((List.getD (Vector.toList a) (Int.toNat t8) (0 : UInt64)) - (List.getD (Vector.toList b) (Int.toNat t8) (0 : UInt64))) - c)) b t4) (fnK big_Sub_C big_Sub_r big_Sub_hs Q)))))) (Q (big_Sub_enc (a, (!(decide (c = (0 : UInt64)))))))) := by kernel_rfl
theorem big_Sub_k0 {r : Vector UInt64 4 × Bool} {Q : CallOut → Prop} (hQ : Q (big_Sub_enc r)) : ∀ k : Nat, (∀ (c : UInt64) (t8 : Int) (a : Vector UInt64 4) (b : Vector UInt64 4) (t4 : Vector UInt64 4), big_Sub_h0 k c t8 a b t4 = some r → headP big_Sub_C big_Sub_lv [true, true, false, true, false] big_Sub_b (big_Sub_s0 c t8 a b t4) (fnK big_Sub_C big_Sub_r big_Sub_hs Q))
  | 0 => fun _ _ _ _ _ h => no_ok h
  | k + 1 => fun c t8 a b t4 h => headP_step (Eq.mpr (big_Sub_g0 c t8 a b t4 Q) (have h := (big_Sub_h0_q k c t8 a b t4).symm.trans h; cond_ok h (fun h => ite_ok h fun hc0 h => ⟨hc0, ite_ok h fun hc1 h => ⟨hc0, (big_Sub_k0 hQ k) _ _ _ _ _ h⟩⟩) (fun h => ret_ok (Q := Q) (e := big_Sub_enc) h hQ)))
theorem big_Sub_e (a : Vector UInt64 4) (b : Vector UInt64 4) (Q : CallOut → Prop) : evalFnP big_Sub_C big_Sub_lv big_Sub_r big_Sub_hs big_Sub_b [.pv (.arr .u64 4 a), .pv (.arr .u64 4 b)] [] Q =
    (headP big_Sub_C big_Sub_lv [true, true, false, true, false] big_Sub_b (big_Sub_s0 (0 : UInt64) (0 : Int) a b (Vector.replicate (4 : Nat) (0 : UInt64))) (fnK big_Sub_C big_Sub_r big_Sub_hs Q)) := by kernel_rfl
theorem big_Sub_w {k : Nat} (a : Vector UInt64 4) (b : Vector UInt64 4) {r} {Q : CallOut → Prop} (h : big_Sub k a b = some r) (hQ : Q (big_Sub_enc r)) : evalFnP big_Sub_C big_Sub_lv big_Sub_r big_Sub_hs big_Sub_b [.pv (.arr .u64 4 a), .pv (.arr .u64 4 b)] [] Q :=
  Eq.mpr (big_Sub_e a b Q) (have h := (big_Sub_q k a b).symm.trans h; (big_Sub_k0 hQ _) _ _ _ _ _ h)
def big_Sub_c : Ans
  | [.pv (.arr .u64 4 a), .pv (.arr .u64 4 b)], [] => some (none, big_Sub_enc ((subV a b, subB a b)))
  | _, _ => none
theorem big_Sub_tok : TblOK Tryd.prog theG big_Sub_T := .nil
theorem big_Sub_ok : FnOK Tryd.prog theG 84 (unW big_Sub_c) := by
  refine FnOK.ofC (T := big_Sub_T) (nt := 28) (np := 0) (mv := []) (nf := false) (hs := big_Sub_hs) (fn := Tryd.f84) (body := big_Sub_b) big_Sub_tok (by kernel_rfl) (by kernel_rfl) (by kernel_rfl) (by kernel_rfl) (c := big_Sub_c) (lv := big_Sub_lv) ?_
  intro xs mem p out h hp
  unfold big_Sub_c at h
  split at h
  · cases h
    obtain ⟨k, hk⟩ := big_Sub_spec _ _
    exact big_Sub_w _ _ hk rfl
  · cases h
end
end Go.Proofs.YtbdajagcinfeeaaDoor.M

namespace Go.Proofs.YtbdajagcinfeeaaDoor.M
open Go
noncomputable section
set_option maxRecDepth 100000
set_option maxHeartbeats 0
noncomputable def big_Less_T : Tbl := [(84, [], big_Sub_c)]
noncomputable def big_Less_C : CfgW := mkC Tryd.prog theG big_Less_T 14 0 false
def big_Less_lv : Nat → List Nat := fun i => []
noncomputable abbrev big_Less_b : Code := Tryd.f63.body.getD .skip
noncomputable abbrev big_Less_r : List ResultVar := Tryd.f63.results.toList
def big_Less_hs : List Nat := []

def big_Less_enc (r : Bool) : CallOut := ⟨.pv (.sc .b r), [], true, []⟩
theorem big_Less_e (a : Vector UInt64 4) (b : Vector UInt64 4) (Q : CallOut → Prop) : evalFnP big_Less_C big_Less_lv big_Less_r big_Less_hs big_Less_b [.pv (.arr .u64 4 a), .pv (.arr .u64 4 b)] [] Q =
    (Q (big_Less_enc (subB a b))) := by kernel_rfl
theorem big_Less_w (a : Vector UInt64 4) (b : Vector UInt64 4) {Q : CallOut → Prop} (h : Q (big_Less_enc (big_Less a b))) : evalFnP big_Less_C big_Less_lv big_Less_r big_Less_hs big_Less_b [.pv (.arr .u64 4 a), .pv (.arr .u64 4 b)] [] Q :=
  Eq.mpr (big_Less_e a b Q) (have h := Eq.mp (congrArg (fun r => Q (big_Less_enc r)) (big_Less_q a b)) h; h)
def big_Less_c : Ans
  | [.pv (.arr .u64 4 a), .pv (.arr .u64 4 b)], [] => some (none, big_Less_enc (subB a b))
  | _, _ => none
theorem big_Less_tok : TblOK Tryd.prog theG big_Less_T := .cons ⟨by kernel_rfl, big_Sub_ok⟩ (.nil)
theorem big_Less_ok : FnOK Tryd.prog theG 63 (unW big_Less_c) := by
  refine FnOK.ofC (T := big_Less_T) (nt := 14) (np := 0) (mv := []) (nf := false) (hs := big_Less_hs) (fn := Tryd.f63) (body := big_Less_b) big_Less_tok (by kernel_rfl) (by kernel_rfl) (by kernel_rfl) (by kernel_rfl) (c := big_Less_c) (lv := big_Less_lv) ?_
  intro xs mem p out h hp
  unfold big_Less_c at h
  split at h
  · cases h
    exact big_Less_w _ _ (congrArg big_Less_enc (big_Less_spec _ _))
  · cases h
end
end Go.Proofs.YtbdajagcinfeeaaDoor.M
