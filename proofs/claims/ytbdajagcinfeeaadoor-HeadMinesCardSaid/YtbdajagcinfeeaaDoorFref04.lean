/- Part of the proofs: what functions of the program do: plain functions, and the walks that show it. No condition. -/
import Derived.KernelRfl
import Derived.Test.YtbdajagcinfeeaaDoorProg
import Derived.Test.YtbdajagcinfeeaaDoorLe
import Derived.Test.YtbdajagcinfeeaaDoorFref03
import Derived.Test.YtbdajagcinfeeaaDoorSwords
import Derived.Test.YtbdajagcinfeeaaDoorSbigS
import Derived.Test.YtbdajagcinfeeaaDoorSbigB
import Derived.Test.YtbdajagcinfeeaaDoorStarS
import Derived.Test.YtbdajagcinfeeaaDoorSshaK
set_option linter.unusedVariables false
set_option linter.unusedSimpArgs false
set_option autoImplicit false
namespace Go.Proofs.YtbdajagcinfeeaaDoor.M
open Go
noncomputable section
/-- the loop 2 of moneyer/moneyerref04.Bits -/
def ref04_Bits_h2 : Nat → Int → UInt32 → Int → (Vector UInt8 32) → Option (UInt32)
  | 0, _, _, _, _ => none
  | k + 1, n, m, k_, h_ => bif decide (k_ ≤ (3 : Int)) then (bif decide ((0 : Int) ≤ (w64 (n - k_))) then (if ((0 : Int) ≤ (w64 (n - k_))) ∧ ((w64 (n - k_)) < (32 : Int)) then
          ref04_Bits_h2 k n (((256 : UInt32) * m) + (UInt8.toUInt32 (List.getD (Vector.toList h_) (Int.toNat (w64 (n - k_))) (0 : UInt8)))) (w64 (k_ + (1 : Int))) h_
        else none)
        else (ref04_Bits_h2 k n ((256 : UInt32) * m) (w64 (k_ + (1 : Int))) h_))
      else (bif decide ((8388607 : UInt32) < m) then (some (((16777216 : UInt32) * (UInt32.ofInt (w64 (n + (1 : Int))))) + (m / (256 : UInt32))))
        else (some (((16777216 : UInt32) * (UInt32.ofInt n)) + m)))
theorem ref04_Bits_h2_q (k : Nat) (n : Int) (m : UInt32) (k_ : Int) (h_ : Vector UInt8 32) : ref04_Bits_h2 (k + 1) n m k_ h_ =
  (bif decide (k_ ≤ (3 : Int)) then (bif decide ((0 : Int) ≤ (w64 (n - k_))) then (if ((0 : Int) ≤ (w64 (n - k_))) ∧ ((w64 (n - k_)) < (32 : Int)) then
          ref04_Bits_h2 k n (((256 : UInt32) * m) + (UInt8.toUInt32 (List.getD (Vector.toList h_) (Int.toNat (w64 (n - k_))) (0 : UInt8)))) (w64 (k_ + (1 : Int))) h_
        else none)
        else (ref04_Bits_h2 k n ((256 : UInt32) * m) (w64 (k_ + (1 : Int))) h_))
      else (bif decide ((8388607 : UInt32) < m) then (some (((16777216 : UInt32) * (UInt32.ofInt (w64 (n + (1 : Int))))) + (m / (256 : UInt32))))
        else (some (((16777216 : UInt32) * (UInt32.ofInt n)) + m)))) := by kernel_rfl
/-- the loop 0 of moneyer/moneyerref04.Bits -/
def ref04_Bits_h0 : Nat → Int → Int → (Vector UInt8 32) → Option (UInt32)
  | 0, _, _, _ => none
  | k + 1, n, i, h_ => bif decide (i < (32 : Int)) then (if ((0 : Int) ≤ i) ∧ (i < (32 : Int)) then
        bif !(decide ((List.getD (Vector.toList h_) (Int.toNat i) (0 : UInt8)) = (0 : UInt8))) then (ref04_Bits_h0 k (w64 (i + (1 : Int))) (w64 (i + (1 : Int))) h_)
          else (ref04_Bits_h0 k n (w64 (i + (1 : Int))) h_)
      else none)
      else (bif decide (n = (0 : Int)) then (some (0 : UInt32))
        else (ref04_Bits_h2 k n (0 : UInt32) (1 : Int) h_))
theorem ref04_Bits_h0_q (k : Nat) (n : Int) (i : Int) (h_ : Vector UInt8 32) : ref04_Bits_h0 (k + 1) n i h_ =
  (bif decide (i < (32 : Int)) then (if ((0 : Int) ≤ i) ∧ (i < (32 : Int)) then
        bif !(decide ((List.getD (Vector.toList h_) (Int.toNat i) (0 : UInt8)) = (0 : UInt8))) then (ref04_Bits_h0 k (w64 (i + (1 : Int))) (w64 (i + (1 : Int))) h_)
          else (ref04_Bits_h0 k n (w64 (i + (1 : Int))) h_)
      else none)
      else (bif decide (n = (0 : Int)) then (some (0 : UInt32))
        else (ref04_Bits_h2 k n (0 : UInt32) (1 : Int) h_))) := by kernel_rfl
/-- moneyer/moneyerref04.Bits -/
def ref04_Bits (k : Nat) (t : Vector UInt64 4) : Option (UInt32) :=
  ref04_Bits_h0 k (0 : Int) (0 : Int) (hashV (uV t))
theorem ref04_Bits_q (k : Nat) (t : Vector UInt64 4) : ref04_Bits k t = (ref04_Bits_h0 k (0 : Int) (0 : Int) (hashV (uV t))) := by kernel_rfl
theorem byN_val {x i : Nat} (h1 : 2 ^ (8 * i) ≤ x) (h2 : x < 2 ^ (8 * (i + 1))) : byN x = i + 1 := by
  have hx : x ≠ 0 := by have := Nat.two_pow_pos (8 * i); omega
  have a : lenN x ≤ 8 * (i + 1) := lenN_le.2 h2
  have b : ¬ lenN x ≤ 8 * i := by rw [lenN_le]; omega
  unfold byN
  omega
theorem hash_byte (t i : Nat) (h : i < 32) : (List.getD (Vector.toList (hashV t)) i 0).toNat = t / 2 ^ (8 * i) % 256 := by
  rw [hashV_get _ _ h, UInt8.toNat_ofNat']
theorem byte_split (t i : Nat) : t / 2 ^ (8 * i) = 256 * (t / 2 ^ (8 * (i + 1))) + t / 2 ^ (8 * i) % 256 := by
  rw [show 8 * (i + 1) = 8 * i + 8 by omega, Nat.pow_add, ← Nat.div_div_eq_div_mul]
  omega
theorem byte_mod (t i : Nat) : t % 2 ^ (8 * (i + 1)) = t % 2 ^ (8 * i) + 2 ^ (8 * i) * (t / 2 ^ (8 * i) % 256) := by
  rw [show 8 * (i + 1) = 8 * i + 8 by omega, Nat.pow_add, Nat.mod_mul]
theorem ref04_Bits_l2 (t : Nat) (ht : t ≠ 0) (h256 : t < 2 ^ 256) (R : Vector UInt64 4) (hR : uV R = t) : Ev (fun k => ref04_Bits_h2 k ((byN t : Nat) : Int) 0 1 (hashV t)) (bitsW R) := by
  have hb := byN_le h256
  obtain ⟨h0, h1, h2⟩ := lenN_pos ht
  have hlt : t < 2 ^ (8 * byN t) := Nat.lt_of_lt_of_le h2 (Nat.pow_le_pow_right (by decide) (by unfold byN; omega))
  obtain ⟨p1, p2⟩ := bits_pre ht
  refine Ev.inv (H := fun k i m => ref04_Bits_h2 k ((byN t : Nat) : Int) m i (hashV t)) (n := 4)
    (fun i m => 1 ≤ i ∧ m.toNat = (if byN t ≤ i - 1 then t * 2 ^ (8 * (i - 1 - byN t)) else t / 2 ^ (8 * (byN t - (i - 1)))) ∧ m.toNat < 2 ^ (8 * (i - 1))) ?_ ?_ 3 1 0 rfl ?_
  · rintro i m hi ⟨hi1, hm, hml⟩ next
    have hml2 : m.toNat < 65536 := by
      have : i - 1 ≤ 2 := by omega
      have := Nat.pow_le_pow_right (show 0 < 2 by decide) (show 8 * (i - 1) ≤ 16 by omega)
      omega
    have ew : w64 (((byN t : Nat) : Int) - (i : Int)) = ((byN t : Nat) : Int) - (i : Int) := w64_id (by omega) (by omega)
    have e256 : (256 * m).toNat = 256 * m.toNat := by
      rw [UInt32.toNat_mul, show (256 : UInt32).toNat = 256 from rfl]
      omega
    have pw : 2 ^ (8 * (i + 1 - 1)) = 256 * 2 ^ (8 * (i - 1)) := by
      rw [show 8 * (i + 1 - 1) = 8 + 8 * (i - 1) by omega, Nat.pow_add]
    by_cases c : i ≤ byN t
    · have hby := hash_byte t (byN t - i) (by omega)
      have hbl := (List.getD (Vector.toList (hashV t)) (byN t - i) 0).toNat_lt
      have ev : (256 * m + UInt8.toUInt32 (List.getD (Vector.toList (hashV t)) (byN t - i) 0)).toNat = 256 * m.toNat + t / 2 ^ (8 * (byN t - i)) % 256 := by
        rw [UInt32.toNat_add, e256, UInt8.toNat_toUInt32, hby]
        omega
      have hmod : t / 2 ^ (8 * (byN t - i)) % 256 < 256 := Nat.mod_lt _ (by decide)
      refine Ev.step (fun k => ?_) (next (256 * m + UInt8.toUInt32 (List.getD (Vector.toList (hashV t)) (byN t - i) 0)) ⟨by omega, ?_, ?_⟩)
      · rw [ref04_Bits_h2_q, bif_pos (by omega), ew, bif_pos (by omega), if_pos (by omega), show Int.toNat (((byN t : Nat) : Int) - (i : Int)) = byN t - i by omega, w64_id (by omega) (by omega)]
      · rw [ev]
        have hs := byte_split t (byN t - i)
        by_cases d : byN t ≤ i
        · have hbi : byN t = i := by omega
          rw [if_pos (by omega)]
          rw [if_neg (by omega), show byN t - (i - 1) = byN t - i + 1 by omega] at hm
          rw [hm, ← hs, show byN t - i = 0 by omega, show i + 1 - 1 - byN t = 0 by omega, Nat.mul_zero, Nat.pow_zero, Nat.mul_one, Nat.div_one]
        · rw [if_neg (by omega)]
          rw [if_neg (by omega), show byN t - (i - 1) = byN t - i + 1 by omega] at hm
          rw [hm, ← hs]
          rfl
      · rw [ev, pw]
        omega
    · refine Ev.step (fun k => ?_) (next (256 * m) ⟨by omega, ?_, ?_⟩)
      · rw [ref04_Bits_h2_q, bif_pos (by omega), ew, bif_neg (by omega), w64_id (by omega) (by omega)]
      · rw [e256, if_pos (by omega)]
        rw [if_pos (by omega)] at hm
        rw [hm, show 8 * (i + 1 - 1 - byN t) = 8 + 8 * (i - 1 - byN t) by omega, Nat.pow_add]
        generalize 2 ^ (8 * (i - 1 - byN t)) = P
        rw [show 2 ^ 8 = 256 from rfl, Nat.mul_left_comm]
      · rw [e256, pw]
        omega
  · rintro m ⟨_, hm, _⟩
    refine Ev.done fun k => ?_
    have hx : m.toNat = preX t := by rw [hm]; rfl
    show ref04_Bits_h2 (k + 1) _ m _ _ = _
    rw [ref04_Bits_h2_q, bif_neg (by omega)]
    have val : ∀ y : UInt32, y.toNat = bitsN t → some y = some (bitsW R) := by
      intro y hy
      exact congrArg some (UInt32.toNat_inj.1 (hy.trans (by rw [bitsW_val, hR])))
    have eo : ∀ n : Nat, n < 256 → ((16777216 : UInt32) * UInt32.ofInt ((n : Nat) : Int)).toNat = n * 16777216 := by
      intro n hn
      rw [UInt32.toNat_mul, show UInt32.ofInt ((n : Nat) : Int) = UInt32.ofNat (((n : Nat) : Int) % 2 ^ 32).toNat from rfl, UInt32.toNat_ofNat', show (16777216 : UInt32).toNat = 16777216 from rfl]
      omega
    by_cases c : (8388607 : UInt32) < m
    · rw [bif_pos c, show w64 (((byN t : Nat) : Int) + 1) = ((byN t + 1 : Nat) : Int) by rw [w64_id (by omega) (by omega)]; omega]
      rw [UInt32.lt_iff_toNat_lt, hx, show (8388607 : UInt32).toNat = 8388607 from rfl] at c
      refine val _ ?_
      rw [UInt32.toNat_add, eo _ (by omega), UInt32.toNat_div, hx, p2, if_pos c, show (256 : UInt32).toNat = 256 from rfl]
      omega
    · rw [bif_neg c]
      rw [UInt32.lt_iff_toNat_lt, hx, show (8388607 : UInt32).toNat = 8388607 from rfl] at c
      refine val _ ?_
      rw [UInt32.toNat_add, eo _ (by omega), hx, p2, if_neg c]
      omega
  · have hb0 : byN t ≠ 0 := fun e => ht (byN_zero.1 e)
    refine ⟨Nat.le_refl _, ?_, by decide⟩
    rw [if_neg (by omega), Nat.sub_self, Nat.sub_zero, Nat.div_eq_of_lt hlt]
    rfl
theorem ref04_Bits_spec (t : Vector UInt64 4) : ∃ k, ref04_Bits k t = some (bitsW t) := by
  show Ev (fun k => ref04_Bits k t) _
  refine Ev.same (fun k => ref04_Bits_q k t) ?_
  have h256 : uV t < 2 ^ 256 := by rw [two256]; exact uV_lt t
  refine Ev.inv (H := fun k i n => ref04_Bits_h0 k n i (hashV (uV t))) (n := 32) (fun i n => n = ((byN (uV t % 2 ^ (8 * i)) : Nat) : Int)) ?_ ?_ 32 0 0 rfl ?_
  · intro i n hi hn next
    have hby := hash_byte (uV t) i hi
    have hm := byte_mod (uV t) i
    have hl := Nat.mod_lt (uV t) (Nat.two_pow_pos (8 * i))
    by_cases c : List.getD (Vector.toList (hashV (uV t))) i 0 = 0
    · rw [c, show (0 : UInt8).toNat = 0 from rfl] at hby
      rw [← hby, Nat.mul_zero, Nat.add_zero] at hm
      refine Ev.step (fun k => ?_) (next n ?_)
      · rw [ref04_Bits_h0_q, bif_pos (by omega), if_pos (by omega), Int.toNat_natCast, decide_eq_true c, Bool.not_true, cond_false, w64_id (by omega) (by omega)]
      · rw [hm]; exact hn
    · have hne : uV t / 2 ^ (8 * i) % 256 ≠ 0 := by
        rw [← hby]
        exact fun e => c (UInt8.toNat_inj.1 e)
      refine Ev.step (fun k => ?_) (next ((i : Int) + 1) ?_)
      · rw [ref04_Bits_h0_q, bif_pos (by omega), if_pos (by omega), Int.toNat_natCast, decide_eq_false c, Bool.not_false, cond_true, w64_id (by omega) (by omega)]
      · have h1 : 2 ^ (8 * i) ≤ uV t % 2 ^ (8 * (i + 1)) := by
          rw [hm]
          have : 2 ^ (8 * i) * 1 ≤ 2 ^ (8 * i) * (uV t / 2 ^ (8 * i) % 256) := Nat.mul_le_mul_left _ (by omega)
          omega
        rw [byN_val h1 (Nat.mod_lt _ (Nat.two_pow_pos _))]
        omega
  · intro n hn
    rw [show 8 * 32 = 256 from rfl, Nat.mod_eq_of_lt h256] at hn
    subst hn
    by_cases c : uV t = 0
    · refine Ev.done fun k => ?_
      show ref04_Bits_h0 (k + 1) _ _ _ = _
      rw [ref04_Bits_h0_q, bif_neg (by omega), bif_pos (by rw [byN_zero.2 c]; rfl), bitsW_eq, c]
      unfold bitsN
      rw [if_pos rfl]
      rfl
    · have hb0 : byN (uV t) ≠ 0 := fun e => c (byN_zero.1 e)
      refine Ev.step (fun k => ?_) (ref04_Bits_l2 (uV t) c h256 t rfl)
      show ref04_Bits_h0 (k + 1) _ _ _ = _
      rw [ref04_Bits_h0_q, bif_neg (by omega), bif_neg (by omega)]
  · rw [Nat.mul_zero, Nat.pow_zero, Nat.mod_one, byN_zero.2 rfl]
    rfl

end
end Go.Proofs.YtbdajagcinfeeaaDoor.M

namespace Go.Proofs.YtbdajagcinfeeaaDoor.M
open Go
noncomputable section
/-- the loop 0 of moneyer/moneyerref04.Of -/
def ref04_Of_h0 : Nat → UInt32 → UInt32 → Int → Int → (Vector UInt64 4) → (Vector UInt8 32) → Option (Vector UInt64 4 × Int)
  | 0, _, _, _, _, _, _ => none
  | k + 1, bits, m, exp, k_, t2, h_ => bif decide (k_ < (3 : Int)) then (bif eqb (decide ((32 : Int) ≤ (w64 ((w64 (exp - (3 : Int))) + k_)))) true then (bif bif true then (!(decide ((UInt32.toUInt8 (m % (256 : UInt32))) = (0 : UInt8)))) else false then (some ((Vector.replicate (4 : Nat) (0 : UInt64)), (5 : Int)))
          else (bif eqb (decide ((0 : Int) ≤ (w64 ((w64 (exp - (3 : Int))) + k_)))) true then (bif bif true then (decide ((w64 ((w64 (exp - (3 : Int))) + k_)) < (32 : Int))) else false then (if ((0 : Int) ≤ (w64 ((w64 (exp - (3 : Int))) + k_))) ∧ ((w64 ((w64 (exp - (3 : Int))) + k_)) < (32 : Int)) then
                ref04_Of_h0 k bits (m / (256 : UInt32)) exp (w64 (k_ + (1 : Int))) t2 (Vector.setIfInBounds h_ (Int.toNat (w64 ((w64 (exp - (3 : Int))) + k_))) (UInt32.toUInt8 (m % (256 : UInt32))))
              else none)
              else (ref04_Of_h0 k bits (m / (256 : UInt32)) exp (w64 (k_ + (1 : Int))) t2 h_))
            else (ref04_Of_h0 k bits (m / (256 : UInt32)) exp (w64 (k_ + (1 : Int))) t2 h_)))
        else (bif eqb (decide ((0 : Int) ≤ (w64 ((w64 (exp - (3 : Int))) + k_)))) true then (bif bif true then (decide ((w64 ((w64 (exp - (3 : Int))) + k_)) < (32 : Int))) else false then (if ((0 : Int) ≤ (w64 ((w64 (exp - (3 : Int))) + k_))) ∧ ((w64 ((w64 (exp - (3 : Int))) + k_)) < (32 : Int)) then
              ref04_Of_h0 k bits (m / (256 : UInt32)) exp (w64 (k_ + (1 : Int))) t2 (Vector.setIfInBounds h_ (Int.toNat (w64 ((w64 (exp - (3 : Int))) + k_))) (UInt32.toUInt8 (m % (256 : UInt32))))
            else none)
            else (ref04_Of_h0 k bits (m / (256 : UInt32)) exp (w64 (k_ + (1 : Int))) t2 h_))
          else (ref04_Of_h0 k bits (m / (256 : UInt32)) exp (w64 (k_ + (1 : Int))) t2 h_)))
      else (bif eqb (decide (((bits / (8388608 : UInt32)) % (2 : UInt32)) = (1 : UInt32))) false then (bif eqb (bif false then true else (decide ((Vector.toList (hashU h_)) = (Vector.toList (uW (0 : Nat)))))) false then (bif bif false then true else (!(decide ((bitsW (hashU h_)) = bits))) then (some ((Vector.replicate (4 : Nat) (0 : UInt64)), (5 : Int)))
            else (some ((hashU h_), (0 : Int))))
          else (some ((Vector.replicate (4 : Nat) (0 : UInt64)), (5 : Int))))
        else (some ((Vector.replicate (4 : Nat) (0 : UInt64)), (5 : Int))))
theorem ref04_Of_h0_q (k : Nat) (bits : UInt32) (m : UInt32) (exp : Int) (k_ : Int) (t2 : Vector UInt64 4) (h_ : Vector UInt8 32) : ref04_Of_h0 (k + 1) bits m exp k_ t2 h_ =
  (bif decide (k_ < (3 : Int)) then (bif eqb (decide ((32 : Int) ≤ (w64 ((w64 (exp - (3 : Int))) + k_)))) true then (bif bif true then (!(decide ((UInt32.toUInt8 (m % (256 : UInt32))) = (0 : UInt8)))) else false then (some ((Vector.replicate (4 : Nat) (0 : UInt64)), (5 : Int)))
          else (bif eqb (decide ((0 : Int) ≤ (w64 ((w64 (exp - (3 : Int))) + k_)))) true then (bif bif true then (decide ((w64 ((w64 (exp - (3 : Int))) + k_)) < (32 : Int))) else false then (if ((0 : Int) ≤ (w64 ((w64 (exp - (3 : Int))) + k_))) ∧ ((w64 ((w64 (exp - (3 : Int))) + k_)) < (32 : Int)) then
                ref04_Of_h0 k bits (m / (256 : UInt32)) exp (w64 (k_ + (1 : Int))) t2 (Vector.setIfInBounds h_ (Int.toNat (w64 ((w64 (exp - (3 : Int))) + k_))) (UInt32.toUInt8 (m % (256 : UInt32))))
              else none)
              else (ref04_Of_h0 k bits (m / (256 : UInt32)) exp (w64 (k_ + (1 : Int))) t2 h_))
            else (ref04_Of_h0 k bits (m / (256 : UInt32)) exp (w64 (k_ + (1 : Int))) t2 h_)))
        else (bif eqb (decide ((0 : Int) ≤ (w64 ((w64 (exp - (3 : Int))) + k_)))) true then (bif bif true then (decide ((w64 ((w64 (exp - (3 : Int))) + k_)) < (32 : Int))) else false then (if ((0 : Int) ≤ (w64 ((w64 (exp - (3 : Int))) + k_))) ∧ ((w64 ((w64 (exp - (3 : Int))) + k_)) < (32 : Int)) then
              ref04_Of_h0 k bits (m / (256 : UInt32)) exp (w64 (k_ + (1 : Int))) t2 (Vector.setIfInBounds h_ (Int.toNat (w64 ((w64 (exp - (3 : Int))) + k_))) (UInt32.toUInt8 (m % (256 : UInt32))))
            else none)
            else (ref04_Of_h0 k bits (m / (256 : UInt32)) exp (w64 (k_ + (1 : Int))) t2 h_))
          else (ref04_Of_h0 k bits (m / (256 : UInt32)) exp (w64 (k_ + (1 : Int))) t2 h_)))
      else (bif eqb (decide (((bits / (8388608 : UInt32)) % (2 : UInt32)) = (1 : UInt32))) false then (bif eqb (bif false then true else (decide ((Vector.toList (hashU h_)) = (Vector.toList (uW (0 : Nat)))))) false then (bif bif false then true else (!(decide ((bitsW (hashU h_)) = bits))) then (some ((Vector.replicate (4 : Nat) (0 : UInt64)), (5 : Int)))
            else (some ((hashU h_), (0 : Int))))
          else (some ((Vector.replicate (4 : Nat) (0 : UInt64)), (5 : Int))))
        else (some ((Vector.replicate (4 : Nat) (0 : UInt64)), (5 : Int))))) := by kernel_rfl
/-- moneyer/moneyerref04.Of -/
def ref04_Of (k : Nat) (bits : UInt32) : Option (Vector UInt64 4 × Int) :=
  ref04_Of_h0 k bits (bits % (8388608 : UInt32)) (((UInt32.toNat (bits / (16777216 : UInt32))) : Nat) : Int) (0 : Int) (Vector.replicate (4 : Nat) (0 : UInt64)) (Vector.replicate (32 : Nat) (0 : UInt8))
theorem ref04_Of_q (k : Nat) (bits : UInt32) : ref04_Of k bits = (ref04_Of_h0 k bits (bits % (8388608 : UInt32)) (((UInt32.toNat (bits / (16777216 : UInt32))) : Nat) : Int) (0 : Int) (Vector.replicate (4 : Nat) (0 : UInt64)) (Vector.replicate (32 : Nat) (0 : UInt8))) := by kernel_rfl
theorem ref04_Of_spec (b : UInt32) : ∃ k, ref04_Of k b = some (ofV b, ofE b) := by
  show Ev (fun k => ref04_Of k b) _
  refine Ev.same (fun k => ref04_Of_q k b) ?_
  have hbl := b.toNat_lt
  have he : (b / 16777216).toNat = b.toNat / 16777216 := by rw [UInt32.toNat_div]; rfl
  have hm : (b % 8388608).toNat = b.toNat % 8388608 := by rw [UInt32.toNat_mod]; rfl
  have hs : decide (b / 8388608 % 2 = 1) = !decide (b.toNat / 8388608 % 2 = 0) := by
    rw [← decide_not, decide_eq_decide, ← UInt32.toNat_inj, UInt32.toNat_mod, UInt32.toNat_div, show (8388608 : UInt32).toNat = 8388608 from rfl, show (2 : UInt32).toNat = 2 from rfl, show (1 : UInt32).toNat = 1 from rfl]
    omega
  rw [he]
  generalize eE : b.toNat / 16777216 = E at *
  generalize eM : b.toNat % 8388608 = M at *
  have hE : E < 256 := by omega
  have hM : M < 2 ^ 24 := by omega
  have tg : tgtN b.toNat = if E ≤ 3 then M / 2 ^ (8 * (3 - E)) else M * 2 ^ (8 * (E - 3)) := by unfold tgtN; rw [eE, eM]
  have mb : ∀ j t, t < 8 → M.testBit (8 * j + t) = (M / 2 ^ (8 * j) % 256).testBit t := by
    intro j t ht
    rw [show 256 = 2 ^ 8 from rfl, Nat.testBit_mod_two_pow, decide_eq_true ht, Bool.true_and, Nat.testBit_div_two_pow, Nat.add_comm]
  have tb : ∀ i, (tgtN b.toNat).testBit i = if E ≤ i / 8 + 3 then (M / 2 ^ (8 * (i / 8 + 3 - E)) % 256).testBit (i % 8) else false := by
    intro i
    rw [tg]
    by_cases c : E ≤ 3
    · rw [if_pos c, Nat.testBit_div_two_pow, if_pos (by omega), ← mb _ _ (by omega)]
      congr 1; omega
    · rw [if_neg c, Nat.testBit_mul_two_pow]
      by_cases d : E ≤ i / 8 + 3
      · rw [if_pos d, decide_eq_true (by omega), Bool.true_and, ← mb _ _ (by omega)]
        congr 1; omega
      · rw [if_neg d, decide_eq_false (by omega), Bool.false_and]
  have mh : ∀ k, 3 ≤ k → M / 2 ^ (8 * k) % 256 = 0 := by
    intro k hk
    rw [Nat.div_eq_of_lt (Nat.lt_of_lt_of_le hM (Nat.pow_le_pow_right (by decide) (by omega)))]
  refine Ev.inv (H := fun k i (s : UInt32 × Vector UInt8 32) => ref04_Of_h0 k b s.1 ((E : Nat) : Int) i (Vector.replicate 4 0) s.2) (n := 3)
    (fun k s => s.1.toNat = M / 2 ^ (8 * k) ∧ (∀ j, j < 32 → (List.getD (Vector.toList s.2) j 0).toNat = if E ≤ j + 3 ∧ j + 3 - E < k then M / 2 ^ (8 * (j + 3 - E)) % 256 else 0) ∧ ∀ k', k' < k → 35 ≤ E + k' → M / 2 ^ (8 * k') % 256 = 0) ?_ ?_ 3 0 (b % 8388608, Vector.replicate 32 0) rfl ?_
  · rintro k ⟨m, h⟩ hk ⟨h1, h2, h3⟩ next
    simp only at h1 h2 next
    have hw : w64 (w64 (((E : Nat) : Int) - 3) + (k : Int)) = ((E : Nat) : Int) - 3 + (k : Int) := by
      rw [w64_id (x := ((E : Nat) : Int) - (3 : Int)) (by omega) (by omega), w64_id (by omega) (by omega)]
    have hb : (UInt32.toUInt8 (m % 256)).toNat = M / 2 ^ (8 * k) % 256 := by
      rw [UInt32.toNat_toUInt8, UInt32.toNat_mod, h1, show (256 : UInt32).toNat = 256 from rfl]
      omega
    have hd : (m / 256).toNat = M / 2 ^ (8 * (k + 1)) := by
      rw [UInt32.toNat_div, h1, show 8 * (k + 1) = 8 * k + 8 by omega, Nat.pow_add, ← Nat.div_div_eq_div_mul]
      rfl
    have hz : (UInt32.toUInt8 (m % 256) = 0) ↔ M / 2 ^ (8 * k) % 256 = 0 := by
      rw [← UInt8.toNat_inj, hb]
      rfl
    by_cases c1 : 35 ≤ E + k
    · by_cases c2 : UInt32.toUInt8 (m % 256) = 0
      · refine Ev.step (fun f => ?_) (next (m / 256, h) ⟨hd, fun j hj => ?_, fun k' hk' hk2 => ?_⟩)
        · show ref04_Of_h0 (f + 1) b m _ _ _ h = _
          rw [ref04_Of_h0_q, bif_pos (by omega), hw, decide_eq_true (p := (32 : Int) ≤ ((E : Nat) : Int) - 3 + (k : Int)) (by omega), decide_eq_true c2, decide_eq_true (p := (0 : Int) ≤ ((E : Nat) : Int) - 3 + (k : Int)) (by omega), decide_eq_false (p := ((E : Nat) : Int) - 3 + (k : Int) < 32) (by omega), w64_id (x := (k : Int) + 1) (by omega) (by omega)]
          rfl
        · show (List.getD (Vector.toList h) j 0).toNat = _
          rw [h2 j hj]
          by_cases d : E ≤ j + 3 ∧ j + 3 - E < k
          · rw [if_pos d, if_pos (by omega)]
          · rw [if_neg d, if_neg (by omega)]
        · by_cases e : k' = k
          · subst e; exact hz.1 c2
          · exact h3 k' (by omega) hk2
      · refine Ev.done fun f => ?_
        show ref04_Of_h0 (f + 1) b m _ _ _ h = _
        rw [ref04_Of_h0_q, bif_pos (by omega), hw, decide_eq_true (p := (32 : Int) ≤ ((E : Nat) : Int) - 3 + (k : Int)) (by omega), decide_eq_false c2]
        refine congrArg some (of_bad ?_)
        rintro ⟨g1, _⟩
        rw [tg, if_neg (by omega)] at g1
        have hne : M / 2 ^ (8 * k) % 256 ≠ 0 := fun e => c2 (hz.2 e)
        have hge : 2 ^ (8 * k) ≤ M := by
          by_cases q : 2 ^ (8 * k) ≤ M
          · exact q
          · rw [Nat.div_eq_of_lt (by omega)] at hne
            exact absurd rfl hne
        have := Nat.mul_le_mul_right (2 ^ (8 * (E - 3))) hge
        rw [← Nat.pow_add] at this
        have : 2 ^ 256 ≤ 2 ^ (8 * k + 8 * (E - 3)) := Nat.pow_le_pow_right (by decide) (by omega)
        omega
    · by_cases c3 : 3 ≤ E + k
      · refine Ev.step (fun f => ?_) (next (m / 256, Vector.setIfInBounds h (E + k - 3) (UInt32.toUInt8 (m % 256))) ⟨hd, fun j hj => ?_, fun k' hk' hk2 => by omega⟩)
        · show ref04_Of_h0 (f + 1) b m _ _ _ h = _
          rw [ref04_Of_h0_q, bif_pos (by omega), hw, decide_eq_false (p := (32 : Int) ≤ ((E : Nat) : Int) - 3 + (k : Int)) (by omega), decide_eq_true (p := (0 : Int) ≤ ((E : Nat) : Int) - 3 + (k : Int)) (by omega), decide_eq_true (p := ((E : Nat) : Int) - 3 + (k : Int) < 32) (by omega), w64_id (x := (k : Int) + 1) (by omega) (by omega)]
          simp only [eqb, cond_true, cond_false]
          rw [if_pos (by omega), show Int.toNat (((E : Nat) : Int) - 3 + (k : Int)) = E + k - 3 by omega]
        · show (List.getD (Vector.toList (Vector.setIfInBounds h _ _)) j 0).toNat = _
          rw [vget_set _ _ _ _ _ (by omega)]
          by_cases e : E + k - 3 = j
          · rw [if_pos e, hb, if_pos (by omega), show j + 3 - E = k by omega]
          · rw [if_neg e, h2 j hj]
            by_cases d : E ≤ j + 3 ∧ j + 3 - E < k
            · rw [if_pos d, if_pos (by omega)]
            · rw [if_neg d, if_neg (by omega)]
      · refine Ev.step (fun f => ?_) (next (m / 256, h) ⟨hd, fun j hj => ?_, fun k' hk' hk2 => by omega⟩)
        · show ref04_Of_h0 (f + 1) b m _ _ _ h = _
          rw [ref04_Of_h0_q, bif_pos (by omega), hw, decide_eq_false (p := (32 : Int) ≤ ((E : Nat) : Int) - 3 + (k : Int)) (by omega), decide_eq_false (p := (0 : Int) ≤ ((E : Nat) : Int) - 3 + (k : Int)) (by omega), w64_id (x := (k : Int) + 1) (by omega) (by omega)]
          rfl
        · show (List.getD (Vector.toList h) j 0).toNat = _
          rw [h2 j hj]
          by_cases d : E ≤ j + 3 ∧ j + 3 - E < k
          · rw [if_pos d, if_pos (by omega)]
          · rw [if_neg d, if_neg (by omega)]
  · rintro ⟨m, h⟩ ⟨h1, h2, h3⟩
    simp only at h2
    refine Ev.done fun f => ?_
    show ref04_Of_h0 (f + 1) b m _ _ _ h = _
    have hT : uV (hashU h) = tgtN b.toNat := by
      rw [hashU_val]
      apply Nat.eq_of_testBit_eq
      intro i
      rw [tb i]
      by_cases hi : i < 256
      · rw [numU_bit, h2 _ (by omega)]
        by_cases d : E ≤ i / 8 + 3
        · rw [if_pos d]
          by_cases d2 : i / 8 + 3 - E < 3
          · rw [if_pos ⟨d, d2⟩]
          · rw [if_neg (by omega), mh _ (by omega)]
        · rw [if_neg (by omega), if_neg d, Nat.zero_testBit]
      · have : (numU (Vector.toList h)).testBit i = false := Nat.testBit_lt_two_pow (Nat.lt_of_lt_of_le (by rw [two256]; exact num_lt h : numU (Vector.toList h) < 2 ^ 256) (Nat.pow_le_pow_right (by decide) (by omega)))
        rw [this]
        by_cases d : E ≤ i / 8 + 3
        · rw [if_pos d]
          by_cases d2 : i / 8 + 3 - E < 3
          · rw [h3 _ d2 (by omega), Nat.zero_testBit]
          · rw [mh _ (by omega), Nat.zero_testBit]
        · rw [if_neg d]
    have hlt : tgtN b.toNat < 2 ^ 256 := by rw [← hT, two256]; exact uV_lt _
    have hz : decide (Vector.toList (hashU h) = Vector.toList (uW 0)) = decide (uV (hashU h) = 0) := by
      rw [decide_eq_decide]
      exact uV_zero (hashU h)
    have hq : decide (bitsW (hashU h) = b) = decide (bitsN (uV (hashU h)) = b.toNat) := by rw [decide_eq_decide, bitsW_iff]
    rw [ref04_Of_h0_q, bif_neg (by omega), hs, ← of_end hT hlt rfl hz hq]
    cases decide (b.toNat / 8388608 % 2 = 0) <;> cases decide (Vector.toList (hashU h) = Vector.toList (uW 0)) <;> cases decide (bitsW (hashU h) = b) <;> rfl
  · refine ⟨by rw [Nat.mul_zero, Nat.pow_zero, Nat.div_one]; exact hm, fun j hj => ?_, fun k' hk' => by omega⟩
    show (List.getD (Vector.toList (Vector.replicate 32 (0 : UInt8))) j 0).toNat = _
    rw [vget_rep, if_neg (by omega)]
    rfl

end
end Go.Proofs.YtbdajagcinfeeaaDoor.M

namespace Go.Proofs.YtbdajagcinfeeaaDoor.M
open Go
noncomputable section
/-- moneyer/moneyerref04.Meets -/
def ref04_Meets (h_0 : Vector UInt8 32) (bits : UInt32) : Bool :=
  bif eqb (decide ((ofE bits) = (0 : Int))) true then ((bif true then (!(subB (ofV bits) (hashU h_0))) else false))
    else (false)
theorem ref04_Meets_q (h_0 : Vector UInt8 32) (bits : UInt32) : ref04_Meets h_0 bits = (bif eqb (decide ((ofE bits) = (0 : Int))) true then ((bif true then (!(subB (ofV bits) (hashU h_0))) else false))
    else (false)) := by kernel_rfl
theorem ref04_Meets_spec (h : Vector UInt8 32) (b : UInt32) : ref04_Meets h b = meetsS h b := by
  rw [ref04_Meets, meetsS_eq]
  cases decide (ofE b = 0) <;> rfl

end
end Go.Proofs.YtbdajagcinfeeaaDoor.M

namespace Go.Proofs.YtbdajagcinfeeaaDoor.M
open Go
noncomputable section
set_option maxRecDepth 100000
set_option maxHeartbeats 0
noncomputable def ref04_Bits_T : Tbl := [(87, [], ref03_ToHash_c)]
noncomputable def ref04_Bits_C : CfgW := mkC Tryd.prog theG ref04_Bits_T 51 0 false
def ref04_Bits_lv : Nat → List Nat := fun i => bif Nat.beq i 2 then [3, 4, 6, 7] else bif Nat.beq i 0 then [3, 4, 5] else []
noncomputable abbrev ref04_Bits_b : Code := Tryd.f75.body.getD .skip
noncomputable abbrev ref04_Bits_r : List ResultVar := Tryd.f75.results.toList
def ref04_Bits_hs : List Nat := []

def ref04_Bits_enc (r : UInt32) : CallOut := ⟨.pv (.sc .u32 r), [], true, []⟩
def ref04_Bits_s0 (n : Int) (i : Int) (h_ : Vector UInt8 32) : St := ⟨[(3, .p 60000 []), (4, .pv (.sc .i n)), (5, .pv (.sc .i i))], [(60000, .box (.pv (.arr .u8 32 h_)))]⟩
def ref04_Bits_s2 (n : Int) (m : UInt32) (k_ : Int) (h_ : Vector UInt8 32) : St := ⟨[(3, .p 60000 []), (4, .pv (.sc .i n)), (6, .pv (.sc .u32 m)), (7, .pv (.sc .i k_))], [(60000, .box (.pv (.arr .u8 32 h_)))]⟩
theorem ref04_Bits_g0 (n : Int) (i : Int) (h_ : Vector UInt8 32) (Q : CallOut → Prop) : headRound ref04_Bits_C ref04_Bits_lv [true, true, true, false, true, false] ref04_Bits_b (ref04_Bits_s0 n i h_) (fnK ref04_Bits_C ref04_Bits_r ref04_Bits_hs Q) =
    (condP (decide (i < (32 : Int))) ((((0 : Int) ≤ i) ∧ (i < (32 : Int))) ∧ (condP (!(decide ((List.getD (Vector.toList h_) (Int.toNat i) (0 : UInt8)) = (0 : UInt8)))) (headP ref04_Bits_C ref04_Bits_lv [true, true, true, false, true, false] ref04_Bits_b (ref04_Bits_s0 (w64 (i + (1 : Int))) (w64 (i + (1 : Int))) h_) (fnK ref04_Bits_C ref04_Bits_r ref04_Bits_hs Q)) (headP ref04_Bits_C ref04_Bits_lv [true, true, true, false, true, false] ref04_Bits_b (ref04_Bits_s0 n (w64 (i + (1 : Int))) h_) (fnK ref04_Bits_C ref04_Bits_r ref04_Bits_hs Q)))) (condP (decide (n = (0 : Int))) (Q (ref04_Bits_enc (0 : UInt32))) (headP ref04_Bits_C ref04_Bits_lv [true, true, true, true, true, true, false, true, false] ref04_Bits_b (ref04_Bits_s2 n (0 : UInt32) (1 : Int) h_) (fnK ref04_Bits_C ref04_Bits_r ref04_Bits_hs Q)))) := by kernel_rfl
theorem ref04_Bits_g2 (n : Int) (m : UInt32) (k_ : Int) (h_ : Vector UInt8 32) (Q : CallOut → Prop) : headRound ref04_Bits_C ref04_Bits_lv [true, true, true, true, true, true, false, true, false] ref04_Bits_b (ref04_Bits_s2 n m k_ h_) (fnK ref04_Bits_C ref04_Bits_r ref04_Bits_hs Q) =
    (condP (decide (k_ ≤ (3 : Int))) (condP (decide ((0 : Int) ≤ (w64 (n - k_)))) ((((0 : Int) ≤ (w64 (n - k_))) ∧ ((w64 (n - k_)) < (32 : Int))) ∧ (headP ref04_Bits_C ref04_Bits_lv [true, true, true, true, true, true, false, true, false] ref04_Bits_b (ref04_Bits_s2 n (((256 : UInt32) * m) + (UInt8.toUInt32 (List.getD (Vector.toList h_) (Int.toNat (w64 (n - k_))) (0 : UInt8)))) (w64 (k_ + (1 : Int))) h_) (fnK ref04_Bits_C ref04_Bits_r ref04_Bits_hs Q))) (headP ref04_Bits_C ref04_Bits_lv [true, true, true, true, true, true, false, true, false] ref04_Bits_b (ref04_Bits_s2 n ((256 : UInt32) * m) (w64 (k_ + (1 : Int))) h_) (fnK ref04_Bits_C ref04_Bits_r ref04_Bits_hs Q))) (condP (decide ((8388607 : UInt32) < m)) (((256 : UInt32) ≠ (0 : UInt32)) ∧ (Q (ref04_Bits_enc (((16777216 : UInt32) * (UInt32.ofInt (w64 (n + (1 : Int))))) + (m / (256 : UInt32)))))) (Q (ref04_Bits_enc (((16777216 : UInt32) * (UInt32.ofInt n)) + m))))) := by kernel_rfl
theorem ref04_Bits_k2 {r : UInt32} {Q : CallOut → Prop} (hQ : Q (ref04_Bits_enc r)) : ∀ k : Nat, (∀ (n : Int) (m : UInt32) (k_ : Int) (h_ : Vector UInt8 32), ref04_Bits_h2 k n m k_ h_ = some r → headP ref04_Bits_C ref04_Bits_lv [true, true, true, true, true, true, false, true, false] ref04_Bits_b (ref04_Bits_s2 n m k_ h_) (fnK ref04_Bits_C ref04_Bits_r ref04_Bits_hs Q))
  | 0 => fun _ _ _ _ h => no_ok h
  | k + 1 => fun n m k_ h_ h => headP_step (Eq.mpr (ref04_Bits_g2 n m k_ h_ Q) (have h := (ref04_Bits_h2_q k n m k_ h_).symm.trans h; cond_ok h (fun h => cond_ok h (fun h => ite_ok h fun hc0 h => (ref04_Bits_k2 hQ k) _ _ _ _ h) (fun h => (ref04_Bits_k2 hQ k) _ _ _ _ h)) (fun h => cond_ok h (fun h => ⟨by decide +kernel, ret_ok (Q := Q) (e := ref04_Bits_enc) h hQ⟩) (fun h => ret_ok (Q := Q) (e := ref04_Bits_enc) h hQ))))
theorem ref04_Bits_k0 {r : UInt32} {Q : CallOut → Prop} (hQ : Q (ref04_Bits_enc r)) : ∀ k : Nat, (∀ (n : Int) (i : Int) (h_ : Vector UInt8 32), ref04_Bits_h0 k n i h_ = some r → headP ref04_Bits_C ref04_Bits_lv [true, true, true, false, true, false] ref04_Bits_b (ref04_Bits_s0 n i h_) (fnK ref04_Bits_C ref04_Bits_r ref04_Bits_hs Q))
  | 0 => fun _ _ _ h => no_ok h
  | k + 1 => fun n i h_ h => headP_step (Eq.mpr (ref04_Bits_g0 n i h_ Q) (have h := (ref04_Bits_h0_q k n i h_).symm.trans h; cond_ok h (fun h => ite_ok h fun hc0 h => cond_ok h (fun h => (ref04_Bits_k0 hQ k) _ _ _ h) (fun h => (ref04_Bits_k0 hQ k) _ _ _ h)) (fun h => cond_ok h (fun h => ret_ok (Q := Q) (e := ref04_Bits_enc) h hQ) (fun h => (ref04_Bits_k2 hQ _) _ _ _ _ h))))
theorem ref04_Bits_e (t : Vector UInt64 4) (Q : CallOut → Prop) : evalFnP ref04_Bits_C ref04_Bits_lv ref04_Bits_r ref04_Bits_hs ref04_Bits_b [.pv (.arr .u64 4 t)] [] Q =
    (headP ref04_Bits_C ref04_Bits_lv [true, true, true, false, true, false] ref04_Bits_b (ref04_Bits_s0 (0 : Int) (0 : Int) (hashV (uV t))) (fnK ref04_Bits_C ref04_Bits_r ref04_Bits_hs Q)) := by kernel_rfl
theorem ref04_Bits_w {k : Nat} (t : Vector UInt64 4) {r} {Q : CallOut → Prop} (h : ref04_Bits k t = some r) (hQ : Q (ref04_Bits_enc r)) : evalFnP ref04_Bits_C ref04_Bits_lv ref04_Bits_r ref04_Bits_hs ref04_Bits_b [.pv (.arr .u64 4 t)] [] Q :=
  Eq.mpr (ref04_Bits_e t Q) (have h := (ref04_Bits_q k t).symm.trans h; (ref04_Bits_k0 hQ _) _ _ _ h)
def ref04_Bits_c : Ans
  | [.pv (.arr .u64 4 t)], [] => some (none, ref04_Bits_enc (bitsW t))
  | _, _ => none
theorem ref04_Bits_tok : TblOK Tryd.prog theG ref04_Bits_T := .cons ⟨by kernel_rfl, ref03_ToHash_ok⟩ (.nil)
theorem ref04_Bits_ok : FnOK Tryd.prog theG 75 (unW ref04_Bits_c) := by
  refine FnOK.ofC (T := ref04_Bits_T) (nt := 51) (np := 0) (mv := []) (nf := false) (hs := ref04_Bits_hs) (fn := Tryd.f75) (body := ref04_Bits_b) ref04_Bits_tok (by kernel_rfl) (by kernel_rfl) (by kernel_rfl) (by kernel_rfl) (c := ref04_Bits_c) (lv := ref04_Bits_lv) ?_
  intro xs mem p out h hp
  unfold ref04_Bits_c at h
  split at h
  · cases h
    obtain ⟨k, hk⟩ := ref04_Bits_spec _
    exact ref04_Bits_w _ hk rfl
  · cases h
end
end Go.Proofs.YtbdajagcinfeeaaDoor.M

namespace Go.Proofs.YtbdajagcinfeeaaDoor.M
open Go
noncomputable section
set_option maxRecDepth 100000
set_option maxHeartbeats 0
noncomputable def ref04_Of_T : Tbl := [(66, [], ref03_OfHash_c), (74, [], ref03_Of_c), (75, [], ref04_Bits_c)]
noncomputable def ref04_Of_C : CfgW := mkC Tryd.prog theG ref04_Of_T 64 0 false
def ref04_Of_lv : Nat → List Nat := fun i => bif Nat.beq i 0 then [0, 2, 4, 5, 6, 7] else []
noncomputable abbrev ref04_Of_b : Code := Tryd.f56.body.getD .skip
noncomputable abbrev ref04_Of_r : List ResultVar := Tryd.f56.results.toList
def ref04_Of_hs : List Nat := []

def ref04_Of_enc (r : Vector UInt64 4 × Int) : CallOut := ⟨.tup [.pv (.arr .u64 4 r.1), .pv (.sc .i r.2)], [], true, []⟩
def ref04_Of_s0 (bits : UInt32) (m : UInt32) (exp : Int) (k_ : Int) (t2 : Vector UInt64 4) (h_ : Vector UInt8 32) : St := ⟨[(0, .pv (.sc .u32 bits)), (2, .p 60000 []), (4, .pv (.sc .u32 m)), (5, .pv (.sc .i exp)), (6, .p 60001 []), (7, .pv (.sc .i k_))], [(60000, .box (.pv (.arr .u64 4 t2))), (60001, .box (.pv (.arr .u8 32 h_)))]⟩
theorem ref04_Of_g0 (bits : UInt32) (m : UInt32) (exp : Int) (k_ : Int) (t2 : Vector UInt64 4) (h_ : Vector UInt8 32) (Q : CallOut → Prop) : headRound ref04_Of_C ref04_Of_lv [true, true, true, true, false, true, false] ref04_Of_b (ref04_Of_s0 bits m exp k_ t2 h_) (fnK ref04_Of_C ref04_Of_r ref04_Of_hs Q) =
    (condP (decide (k_ < (3 : Int))) (((256 : UInt32) ≠ (0 : UInt32)) ∧ (((256 : UInt32) ≠ (0 : UInt32)) ∧ (condP (eqb (decide ((32 : Int) ≤ (w64 ((w64 (exp - (3 : Int))) + k_)))) true) (condP (bif true then (!(decide ((UInt32.toUInt8 (m % (256 : UInt32))) = (0 : UInt8)))) else false) (Q (ref04_Of_enc ((Vector.replicate (4 : Nat) (0 : UInt64)), (5 : Int)))) (condP (eqb (decide ((0 : Int) ≤ (w64 ((w64 (exp - (3 : Int))) + k_)))) true) (condP (bif true then (decide ((w64 ((w64 (exp - (3 : Int))) + k_)) < (32 : Int))) else false) ((((0 : Int) ≤ (w64 ((w64 (exp - (3 : Int))) + k_))) ∧ ((w64 ((w64 (exp - (3 : Int))) + k_)) < (32 : Int))) ∧ (headP ref04_Of_C ref04_Of_lv [true, true, true, true, false, true, false] ref04_Of_b (ref04_Of_s0 bits (m / (256 : UInt32)) exp (w64 (k_ + (1 : Int))) t2 (Vector.setIfInBounds h_ (Int.toNat (w64 ((w64 (exp - (3 : Int))) + k_))) (UInt32.toUInt8 (m % (256 : UInt32))))) (fnK ref04_Of_C ref04_Of_r ref04_Of_hs Q))) (headP ref04_Of_C ref04_Of_lv [true, true, true, true, false, true, false] ref04_Of_b (ref04_Of_s0 bits (m / (256 : UInt32)) exp (w64 (k_ + (1 : Int))) t2 h_) (fnK ref04_Of_C ref04_Of_r ref04_Of_hs Q))) (headP ref04_Of_C ref04_Of_lv [true, true, true, true, false, true, false] ref04_Of_b (ref04_Of_s0 bits (m / (256 : UInt32)) exp (w64 (k_ + (1 : Int))) t2 h_) (fnK ref04_Of_C ref04_Of_r ref04_Of_hs Q)))) (condP (eqb (decide ((0 : Int) ≤ (w64 ((w64 (exp - (3 : Int))) + k_)))) true) (condP (bif true then (decide ((w64 ((w64 (exp - (3 : Int))) + k_)) < (32 : Int))) else false) ((((0 : Int) ≤ (w64 ((w64 (exp - (3 : Int))) + k_))) ∧ ((w64 ((w64 (exp - (3 : Int))) + k_)) < (32 : Int))) ∧ (headP ref04_Of_C ref04_Of_lv [true, true, true, true, false, true, false] ref04_Of_b (ref04_Of_s0 bits (m / (256 : UInt32)) exp (w64 (k_ + (1 : Int))) t2 (Vector.setIfInBounds h_ (Int.toNat (w64 ((w64 (exp - (3 : Int))) + k_))) (UInt32.toUInt8 (m % (256 : UInt32))))) (fnK ref04_Of_C ref04_Of_r ref04_Of_hs Q))) (headP ref04_Of_C ref04_Of_lv [true, true, true, true, false, true, false] ref04_Of_b (ref04_Of_s0 bits (m / (256 : UInt32)) exp (w64 (k_ + (1 : Int))) t2 h_) (fnK ref04_Of_C ref04_Of_r ref04_Of_hs Q))) (headP ref04_Of_C ref04_Of_lv [true, true, true, true, false, true, false] ref04_Of_b (ref04_Of_s0 bits (m / (256 : UInt32)) exp (w64 (k_ + (1 : Int))) t2 h_) (fnK ref04_Of_C ref04_Of_r ref04_Of_hs Q)))))) (((8388608 : UInt32) ≠ (0 : UInt32)) ∧ (((2 : UInt32) ≠ (0 : UInt32)) ∧ (condP (eqb (decide (((bits / (8388608 : UInt32)) % (2 : UInt32)) = (1 : UInt32))) false) (condP (eqb (bif false then true else (decide ((Vector.toList (hashU h_)) = (Vector.toList (uW (0 : Nat)))))) false) (condP (bif false then true else (!(decide ((bitsW (hashU h_)) = bits)))) (Q (ref04_Of_enc ((Vector.replicate (4 : Nat) (0 : UInt64)), (5 : Int)))) (Q (ref04_Of_enc ((hashU h_), (0 : Int))))) (Q (ref04_Of_enc ((Vector.replicate (4 : Nat) (0 : UInt64)), (5 : Int))))) (Q (ref04_Of_enc ((Vector.replicate (4 : Nat) (0 : UInt64)), (5 : Int)))))))) := by kernel_rfl
theorem ref04_Of_k0 {r : Vector UInt64 4 × Int} {Q : CallOut → Prop} (hQ : Q (ref04_Of_enc r)) : ∀ k : Nat, (∀ (bits : UInt32) (m : UInt32) (exp : Int) (k_ : Int) (t2 : Vector UInt64 4) (h_ : Vector UInt8 32), ref04_Of_h0 k bits m exp k_ t2 h_ = some r → headP ref04_Of_C ref04_Of_lv [true, true, true, true, false, true, false] ref04_Of_b (ref04_Of_s0 bits m exp k_ t2 h_) (fnK ref04_Of_C ref04_Of_r ref04_Of_hs Q))
  | 0 => fun _ _ _ _ _ _ h => no_ok h
  | k + 1 => fun bits m exp k_ t2 h_ h => headP_step (Eq.mpr (ref04_Of_g0 bits m exp k_ t2 h_ Q) (have h := (ref04_Of_h0_q k bits m exp k_ t2 h_).symm.trans h; cond_ok h (fun h => ⟨by decide +kernel, ⟨by decide +kernel, cond_ok h (fun h => cond_ok h (fun h => ret_ok (Q := Q) (e := ref04_Of_enc) h hQ) (fun h => cond_ok h (fun h => cond_ok h (fun h => ite_ok h fun hc0 h => (ref04_Of_k0 hQ k) _ _ _ _ _ _ h) (fun h => (ref04_Of_k0 hQ k) _ _ _ _ _ _ h)) (fun h => (ref04_Of_k0 hQ k) _ _ _ _ _ _ h))) (fun h => cond_ok h (fun h => cond_ok h (fun h => ite_ok h fun hc0 h => (ref04_Of_k0 hQ k) _ _ _ _ _ _ h) (fun h => (ref04_Of_k0 hQ k) _ _ _ _ _ _ h)) (fun h => (ref04_Of_k0 hQ k) _ _ _ _ _ _ h))⟩⟩) (fun h => ⟨by decide +kernel, ⟨by decide +kernel, cond_ok h (fun h => cond_ok h (fun h => cond_ok h (fun h => ret_ok (Q := Q) (e := ref04_Of_enc) h hQ) (fun h => ret_ok (Q := Q) (e := ref04_Of_enc) h hQ)) (fun h => ret_ok (Q := Q) (e := ref04_Of_enc) h hQ)) (fun h => ret_ok (Q := Q) (e := ref04_Of_enc) h hQ)⟩⟩)))
theorem ref04_Of_e (bits : UInt32) (Q : CallOut → Prop) : evalFnP ref04_Of_C ref04_Of_lv ref04_Of_r ref04_Of_hs ref04_Of_b [.pv (.sc .u32 bits)] [] Q =
    (((8388608 : UInt32) ≠ (0 : UInt32)) ∧ (((16777216 : UInt32) ≠ (0 : UInt32)) ∧ (headP ref04_Of_C ref04_Of_lv [true, true, true, true, false, true, false] ref04_Of_b (ref04_Of_s0 bits (bits % (8388608 : UInt32)) (((UInt32.toNat (bits / (16777216 : UInt32))) : Nat) : Int) (0 : Int) (Vector.replicate (4 : Nat) (0 : UInt64)) (Vector.replicate (32 : Nat) (0 : UInt8))) (fnK ref04_Of_C ref04_Of_r ref04_Of_hs Q)))) := by kernel_rfl
theorem ref04_Of_w {k : Nat} (bits : UInt32) {r} {Q : CallOut → Prop} (h : ref04_Of k bits = some r) (hQ : Q (ref04_Of_enc r)) : evalFnP ref04_Of_C ref04_Of_lv ref04_Of_r ref04_Of_hs ref04_Of_b [.pv (.sc .u32 bits)] [] Q :=
  Eq.mpr (ref04_Of_e bits Q) (have h := (ref04_Of_q k bits).symm.trans h; ⟨by decide +kernel, ⟨by decide +kernel, (ref04_Of_k0 hQ _) _ _ _ _ _ _ h⟩⟩)
def ref04_Of_c : Ans
  | [.pv (.sc .u32 bits)], [] => some (none, ref04_Of_enc ((ofV bits, ofE bits)))
  | _, _ => none
theorem ref04_Of_tok : TblOK Tryd.prog theG ref04_Of_T := .cons ⟨by kernel_rfl, ref03_OfHash_ok⟩ (.cons ⟨by kernel_rfl, ref03_Of_ok⟩ (.cons ⟨by kernel_rfl, ref04_Bits_ok⟩ (.nil)))
theorem ref04_Of_ok : FnOK Tryd.prog theG 56 (unW ref04_Of_c) := by
  refine FnOK.ofC (T := ref04_Of_T) (nt := 64) (np := 0) (mv := []) (nf := false) (hs := ref04_Of_hs) (fn := Tryd.f56) (body := ref04_Of_b) ref04_Of_tok (by kernel_rfl) (by kernel_rfl) (by kernel_rfl) (by kernel_rfl) (c := ref04_Of_c) (lv := ref04_Of_lv) ?_
  intro xs mem p out h hp
  unfold ref04_Of_c at h
  split at h
  · cases h
    obtain ⟨k, hk⟩ := ref04_Of_spec _
    exact ref04_Of_w _ hk rfl
  · cases h
end
end Go.Proofs.YtbdajagcinfeeaaDoor.M

namespace Go.Proofs.YtbdajagcinfeeaaDoor.M
open Go
noncomputable section
set_option maxRecDepth 100000
set_option maxHeartbeats 0
noncomputable def ref04_Meets_T : Tbl := [(56, [], ref04_Of_c), (66, [], ref03_OfHash_c), (65, [], ref03_Less_c)]
noncomputable def ref04_Meets_C : CfgW := mkC Tryd.prog theG ref04_Meets_T 21 0 false
def ref04_Meets_lv : Nat → List Nat := fun i => []
noncomputable abbrev ref04_Meets_b : Code := Tryd.f47.body.getD .skip
noncomputable abbrev ref04_Meets_r : List ResultVar := Tryd.f47.results.toList
def ref04_Meets_hs : List Nat := []

def ref04_Meets_enc (r : Bool) : CallOut := ⟨.pv (.sc .b r), [], true, []⟩
theorem ref04_Meets_e (h_0 : Vector UInt8 32) (bits : UInt32) (Q : CallOut → Prop) : evalFnP ref04_Meets_C ref04_Meets_lv ref04_Meets_r ref04_Meets_hs ref04_Meets_b [.pv (.arr .u8 32 h_0), .pv (.sc .u32 bits)] [] Q =
    (condP (eqb (decide ((ofE bits) = (0 : Int))) true) (Q (ref04_Meets_enc (bif true then (!(subB (ofV bits) (hashU h_0))) else false))) (Q (ref04_Meets_enc false))) := by kernel_rfl
theorem ref04_Meets_w (h_0 : Vector UInt8 32) (bits : UInt32) {Q : CallOut → Prop} (h : Q (ref04_Meets_enc (ref04_Meets h_0 bits))) : evalFnP ref04_Meets_C ref04_Meets_lv ref04_Meets_r ref04_Meets_hs ref04_Meets_b [.pv (.arr .u8 32 h_0), .pv (.sc .u32 bits)] [] Q :=
  Eq.mpr (ref04_Meets_e h_0 bits Q) (have h := Eq.mp (congrArg (fun r => Q (ref04_Meets_enc r)) (ref04_Meets_q h_0 bits)) h; cond_ok2 (Q := fun r => Q (ref04_Meets_enc r)) h (fun h => h) (fun h => h))
def ref04_Meets_c : Ans
  | [.pv (.arr .u8 32 h_0), .pv (.sc .u32 bits)], [] => some (none, ref04_Meets_enc (meetsS h_0 bits))
  | _, _ => none
theorem ref04_Meets_tok : TblOK Tryd.prog theG ref04_Meets_T := .cons ⟨by kernel_rfl, ref04_Of_ok⟩ (.cons ⟨by kernel_rfl, ref03_OfHash_ok⟩ (.cons ⟨by kernel_rfl, ref03_Less_ok⟩ (.nil)))
theorem ref04_Meets_ok : FnOK Tryd.prog theG 47 (unW ref04_Meets_c) := by
  refine FnOK.ofC (T := ref04_Meets_T) (nt := 21) (np := 0) (mv := []) (nf := false) (hs := ref04_Meets_hs) (fn := Tryd.f47) (body := ref04_Meets_b) ref04_Meets_tok (by kernel_rfl) (by kernel_rfl) (by kernel_rfl) (by kernel_rfl) (c := ref04_Meets_c) (lv := ref04_Meets_lv) ?_
  intro xs mem p out h hp
  unfold ref04_Meets_c at h
  split at h
  · cases h
    exact ref04_Meets_w _ _ (congrArg ref04_Meets_enc (ref04_Meets_spec _ _))
  · cases h
end
end Go.Proofs.YtbdajagcinfeeaaDoor.M
