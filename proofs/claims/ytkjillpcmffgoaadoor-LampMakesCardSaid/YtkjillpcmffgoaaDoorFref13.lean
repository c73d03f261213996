/- Part of the proofs: what functions of the program do: plain functions, and the walks that show it. No condition. -/
import Derived.KernelRfl
import Derived.Test.YtkjillpcmffgoaaDoorProg
import Derived.Test.YtkjillpcmffgoaaDoorLe
import Derived.Test.YtkjillpcmffgoaaDoorSwords
import Derived.Test.YtkjillpcmffgoaaDoorSshaS
import Derived.Test.YtkjillpcmffgoaaDoorSmerS
import Derived.Test.YtkjillpcmffgoaaDoorSlampS
import Derived.Test.YtkjillpcmffgoaaDoorFref02
import Derived.Test.YtkjillpcmffgoaaDoorSshaK
set_option linter.unusedVariables false
set_option linter.unusedSimpArgs false
set_option autoImplicit false
namespace Go.Proofs.YtkjillpcmffgoaaDoor.M
open Go
noncomputable section
/-- the loop 0 of moneyer/moneyerref13.bytes -/
def ref13_bytes_h0 : Nat → Int → (Vector UInt8 32) → (List UInt8) → Option (List UInt8)
  | 0, _, _, _ => none
  | k + 1, i, h_, b => bif decide (i < (32 : Int)) then (if ((0 : Int) ≤ i) ∧ (i < (32 : Int)) then
        if (((List.length (b ++ ([(List.getD (Vector.toList h_) (Int.toNat i) (0 : UInt8))] : List UInt8))) * (1 : Nat)) ≤ (70368744177664 : Nat)) ∧ ((List.length (b ++ ([(List.getD (Vector.toList h_) (Int.toNat i) (0 : UInt8))] : List UInt8))) ≤ (70368744177664 : Nat)) then
          ref13_bytes_h0 k (w64 (i + (1 : Int))) h_ (b ++ ([(List.getD (Vector.toList h_) (Int.toNat i) (0 : UInt8))] : List UInt8))
        else none
      else none)
      else (some b)
theorem ref13_bytes_h0_q (k : Nat) (i : Int) (h_ : Vector UInt8 32) (b : List UInt8) : ref13_bytes_h0 (k + 1) i h_ b =
  (bif decide (i < (32 : Int)) then (if ((0 : Int) ≤ i) ∧ (i < (32 : Int)) then
        if (((List.length (b ++ ([(List.getD (Vector.toList h_) (Int.toNat i) (0 : UInt8))] : List UInt8))) * (1 : Nat)) ≤ (70368744177664 : Nat)) ∧ ((List.length (b ++ ([(List.getD (Vector.toList h_) (Int.toNat i) (0 : UInt8))] : List UInt8))) ≤ (70368744177664 : Nat)) then
          ref13_bytes_h0 k (w64 (i + (1 : Int))) h_ (b ++ ([(List.getD (Vector.toList h_) (Int.toNat i) (0 : UInt8))] : List UInt8))
        else none
      else none)
      else (some b)) := by kernel_rfl
/-- moneyer/moneyerref13.bytes -/
def ref13_bytes (k : Nat) (h_0 : Vector UInt8 32) : Option (List UInt8) :=
  ref13_bytes_h0 k (0 : Int) h_0 ([] : List UInt8)
theorem ref13_bytes_q (k : Nat) (h_0 : Vector UInt8 32) : ref13_bytes k h_0 = (ref13_bytes_h0 k (0 : Int) h_0 ([] : List UInt8)) := by kernel_rfl
theorem ref13_bytes_spec (h : Vector UInt8 32) : Ev (fun k => ref13_bytes k h) h.toList := by
  refine Ev.same (fun k => ref13_bytes_q k h) ?_
  have hl : h.toList.length = 32 := Vector.length_toList
  refine Ev.rise (n := 32) (H := fun k i s => ref13_bytes_h0 k i h s) (fun i => h.toList.take i) (fun i hi ih => ?_) ?_ 32 0 (by omega)
  · refine Ev.step (fun k => ?_) ih
    show ref13_bytes_h0 (k + 1) (i : Int) h (h.toList.take i) = ref13_bytes_h0 k ((i : Int) + 1) h (h.toList.take (i + 1))
    have e : h.toList.take i ++ [h.toList.getD i 0] = h.toList.take (i + 1) := by
      rw [List.take_succ_eq_append_getElem (by omega)]
      simp [List.getD, hl, hi]
    have el : (h.toList.take (i + 1)).length = i + 1 := by rw [List.length_take, hl]; omega
    rw [ref13_bytes_h0_q, bif_pos (by omega), if_pos (by omega)]
    simp only [Int.toNat_natCast, e, el]
    rw [if_pos ⟨by omega, by omega⟩, w64_id (by omega) (by omega)]
  · refine Ev.done fun k => ?_
    show ref13_bytes_h0 (k + 1) ((32 : Nat) : Int) h (h.toList.take 32) = _
    rw [ref13_bytes_h0_q, bif_neg (by omega), List.take_of_length_le (by omega)]

end
end Go.Proofs.YtkjillpcmffgoaaDoor.M

namespace Go.Proofs.YtkjillpcmffgoaaDoor.M
open Go
noncomputable section
/-- moneyer/moneyerref13.Secret -/
def ref13_Secret (seed : Vector UInt8 32) (k_1 : UInt8) (v : UInt8) : Option (Vector UInt8 32) :=
  if (((List.length ((Vector.toList seed) ++ ([k_1, v] : List UInt8))) * (1 : Nat)) ≤ (70368744177664 : Nat)) ∧ ((List.length ((Vector.toList seed) ++ ([k_1, v] : List UInt8))) ≤ (70368744177664 : Nat)) then
    if (List.length ((Vector.toList seed) ++ ([k_1, v] : List UInt8))) ≤ (1099511627776 : Nat) then
      some (shaSum ((Vector.toList seed) ++ ([k_1, v] : List UInt8)))
    else none
  else none
theorem ref13_Secret_q (seed : Vector UInt8 32) (k_1 : UInt8) (v : UInt8) : ref13_Secret seed k_1 v = (if (((List.length ((Vector.toList seed) ++ ([k_1, v] : List UInt8))) * (1 : Nat)) ≤ (70368744177664 : Nat)) ∧ ((List.length ((Vector.toList seed) ++ ([k_1, v] : List UInt8))) ≤ (70368744177664 : Nat)) then
    if (List.length ((Vector.toList seed) ++ ([k_1, v] : List UInt8))) ≤ (1099511627776 : Nat) then
      some (shaSum ((Vector.toList seed) ++ ([k_1, v] : List UInt8)))
    else none
  else none) := by kernel_rfl
theorem ref13_Secret_spec (seed : Vector UInt8 32) (k v : UInt8) : ref13_Secret seed k v = some (secV seed k v) := by
  have hl : (Vector.toList seed ++ [k, v]).length = 34 := by rw [List.length_append, Vector.length_toList]; rfl
  rw [ref13_Secret_q, secV_eq]
  simp only [hl]
  simp

end
end Go.Proofs.YtkjillpcmffgoaaDoor.M

namespace Go.Proofs.YtkjillpcmffgoaaDoor.M
open Go
noncomputable section
/-- the loop 0 of moneyer/moneyerref13.Bit -/
def ref13_Bit_h0 : Nat → UInt8 → UInt8 → UInt8 → Option (UInt8)
  | 0, _, _, _ => none
  | k + 1, k_, n, i => bif decide (i < (k_ % (8 : UInt8))) then (ref13_Bit_h0 k k_ (n / (2 : UInt8)) (i + (1 : UInt8)))
      else (some (n % (2 : UInt8)))
theorem ref13_Bit_h0_q (k : Nat) (k_ : UInt8) (n : UInt8) (i : UInt8) : ref13_Bit_h0 (k + 1) k_ n i =
  (bif decide (i < (k_ % (8 : UInt8))) then (ref13_Bit_h0 k k_ (n / (2 : UInt8)) (i + (1 : UInt8)))
      else (some (n % (2 : UInt8)))) := by kernel_rfl
/-- moneyer/moneyerref13.Bit -/
def ref13_Bit (k : Nat) (digest : Vector UInt8 32) (k_1 : UInt8) : Option (UInt8) :=
  if ((0 : Int) ≤ (((UInt8.toNat ((k_1 % (32 : UInt8)) / (8 : UInt8))) : Nat) : Int)) ∧ ((((UInt8.toNat ((k_1 % (32 : UInt8)) / (8 : UInt8))) : Nat) : Int) < (32 : Int)) then
    ref13_Bit_h0 k k_1 (List.getD (Vector.toList digest) (Int.toNat (((UInt8.toNat ((k_1 % (32 : UInt8)) / (8 : UInt8))) : Nat) : Int)) (0 : UInt8)) (0 : UInt8)
  else none
theorem ref13_Bit_q (k : Nat) (digest : Vector UInt8 32) (k_1 : UInt8) : ref13_Bit k digest k_1 = (if ((0 : Int) ≤ (((UInt8.toNat ((k_1 % (32 : UInt8)) / (8 : UInt8))) : Nat) : Int)) ∧ ((((UInt8.toNat ((k_1 % (32 : UInt8)) / (8 : UInt8))) : Nat) : Int) < (32 : Int)) then
    ref13_Bit_h0 k k_1 (List.getD (Vector.toList digest) (Int.toNat (((UInt8.toNat ((k_1 % (32 : UInt8)) / (8 : UInt8))) : Nat) : Int)) (0 : UInt8)) (0 : UInt8)
  else none) := by kernel_rfl
theorem u8_half (x : UInt8) (n : Nat) : shr_u8 x n / 2 = shr_u8 x (n + 1) := by
  unfold shr_u8
  apply UInt8.toNat_inj.1
  have h8 : x.toNat < 256 := UInt8.toNat_lt x
  have h2 : (2 : UInt8).toNat = 2 := rfl
  have a1 : x.toNat / 2 ^ min n 8 ≤ x.toNat := Nat.div_le_self _ _
  have a2 : x.toNat / 2 ^ min (n + 1) 8 ≤ x.toNat := Nat.div_le_self _ _
  rw [UInt8.toNat_div, UInt8.toNat_ofNat', UInt8.toNat_ofNat', h2, Nat.mod_eq_of_lt (by omega), Nat.mod_eq_of_lt (by omega)]
  by_cases h : n < 8
  · rw [show min n 8 = n by omega, show min (n + 1) 8 = n + 1 by omega, Nat.div_div_eq_div_mul, Nat.pow_succ]
  · rw [show min n 8 = 8 by omega, show min (n + 1) 8 = 8 by omega, Nat.div_eq_of_lt (a := x.toNat) (by omega)]
theorem u8_mod2 (x : UInt8) : x % 2 = x &&& 1 := by
  apply UInt8.toNat_inj.1
  rw [UInt8.toNat_mod, UInt8.toNat_and]
  exact (Nat.and_one_is_mod _).symm
theorem shr_u8_0 (x : UInt8) : shr_u8 x 0 = x := by
  unfold shr_u8
  apply UInt8.toNat_inj.1
  have h8 : x.toNat < 256 := UInt8.toNat_lt x
  rw [UInt8.toNat_ofNat']
  simp
theorem u8_mod32_8 (k : UInt8) : (k % 32) % 8 = k % 8 := by
  apply UInt8.toNat_inj.1
  rw [UInt8.toNat_mod, UInt8.toNat_mod, UInt8.toNat_mod]
  show k.toNat % 32 % 8 = k.toNat % 8
  omega
theorem ref13_Bit_spec (d : Vector UInt8 32) (k : UInt8) : Ev (fun n => ref13_Bit n d k) (bitV d k) := by
  refine Ev.same (fun n => ref13_Bit_q n d k) ?_
  have h1 : ((k % 32) / 8).toNat < 32 := by
    rw [UInt8.toNat_div, UInt8.toNat_mod]
    have : k.toNat % (32 : UInt8).toNat < 32 := Nat.mod_lt _ (by decide)
    have h8 : (8 : UInt8).toNat = 8 := rfl
    rw [h8]
    omega
  refine Ev.same (fun n => if_pos ⟨by omega, by omega⟩) ?_
  rw [bitV_eq, Int.toNat_natCast, u8_mod32_8]
  generalize d.toList.getD ((k % 32) / 8).toNat 0 = x
  have hk : (k % 8).toNat < 8 := by rw [UInt8.toNat_mod]; exact Nat.mod_lt _ (by decide)
  generalize hm : (k % 8).toNat = m at hk
  have gen : ∀ j i : Nat, i + j = m → Ev (fun n => ref13_Bit_h0 n k (shr_u8 x i) (UInt8.ofNat i)) (shr_u8 x m &&& 1) := by
    intro j
    induction j with
    | zero =>
      intro i hi
      have : i = m := by omega
      subst this
      refine Ev.done fun n => ?_
      rw [ref13_Bit_h0_q, bif_neg, u8_mod2]
      rw [UInt8.lt_iff_toNat_lt, hm, UInt8.toNat_ofNat']
      omega
    | succ j ih =>
      intro i hi
      refine Ev.step (fun n => ?_) (ih (i + 1) (by omega))
      rw [ref13_Bit_h0_q, bif_pos, u8_half]
      · congr 1
        apply UInt8.toNat_inj.1
        rw [UInt8.toNat_add, UInt8.toNat_ofNat', UInt8.toNat_ofNat']
        show (i % 2 ^ 8 + 1) % 2 ^ 8 = (i + 1) % 2 ^ 8
        omega
      · rw [UInt8.lt_iff_toNat_lt, hm, UInt8.toNat_ofNat']
        omega
  have := gen m 0 (by omega)
  rw [shr_u8_0] at this
  exact this

end
end Go.Proofs.YtkjillpcmffgoaaDoor.M

namespace Go.Proofs.YtkjillpcmffgoaaDoor.M
open Go
noncomputable section
mutual
/-- the loop 0 of moneyer/moneyerref13.Key -/
def ref13_Key_h0 : Nat → Int → (Vector UInt8 32) → (Vector UInt8 32) → (List UInt8) → Option (Vector UInt8 32)
  | 0, _, _, _, _ => none
  | k + 1, k_, seed, t2, all => bif decide (k_ < (32 : Int)) then (ref13_Key_h2 k k_ (0 : Int) seed t2 all)
      else (if (List.length all) ≤ (1099511627776 : Nat) then
        some (shaSum all)
      else none)
/-- the loop 2 of moneyer/moneyerref13.Key -/
def ref13_Key_h2 : Nat → Int → Int → (Vector UInt8 32) → (Vector UInt8 32) → (List UInt8) → Option (Vector UInt8 32)
  | 0, _, _, _, _, _ => none
  | k + 1, k_, v, seed, t2, all => bif decide (v < (2 : Int)) then (if (List.length (Vector.toList (secV seed (UInt8.ofInt k_) (UInt8.ofInt v)))) ≤ (1099511627776 : Nat) then
        if (((List.length (all ++ (Vector.toList (shaSum (Vector.toList (secV seed (UInt8.ofInt k_) (UInt8.ofInt v))))))) * (1 : Nat)) ≤ (70368744177664 : Nat)) ∧ ((List.length (all ++ (Vector.toList (shaSum (Vector.toList (secV seed (UInt8.ofInt k_) (UInt8.ofInt v))))))) ≤ (70368744177664 : Nat)) then
          ref13_Key_h2 k k_ (w64 (v + (1 : Int))) seed t2 (all ++ (Vector.toList (shaSum (Vector.toList (secV seed (UInt8.ofInt k_) (UInt8.ofInt v))))))
        else none
      else none)
      else (ref13_Key_h0 k (w64 (k_ + (1 : Int))) seed t2 all)
end
theorem ref13_Key_h0_q (k : Nat) (k_ : Int) (seed : Vector UInt8 32) (t2 : Vector UInt8 32) (all : List UInt8) : ref13_Key_h0 (k + 1) k_ seed t2 all =
  (bif decide (k_ < (32 : Int)) then (ref13_Key_h2 k k_ (0 : Int) seed t2 all)
      else (if (List.length all) ≤ (1099511627776 : Nat) then
        some (shaSum all)
      else none)) := by kernel_rfl
theorem ref13_Key_h2_q (k : Nat) (k_ : Int) (v : Int) (seed : Vector UInt8 32) (t2 : Vector UInt8 32) (all : List UInt8) : ref13_Key_h2 (k + 1) k_ v seed t2 all =
  (bif decide (v < (2 : Int)) then (if (List.length (Vector.toList (secV seed (UInt8.ofInt k_) (UInt8.ofInt v)))) ≤ (1099511627776 : Nat) then
        if (((List.length (all ++ (Vector.toList (shaSum (Vector.toList (secV seed (UInt8.ofInt k_) (UInt8.ofInt v))))))) * (1 : Nat)) ≤ (70368744177664 : Nat)) ∧ ((List.length (all ++ (Vector.toList (shaSum (Vector.toList (secV seed (UInt8.ofInt k_) (UInt8.ofInt v))))))) ≤ (70368744177664 : Nat)) then
          ref13_Key_h2 k k_ (w64 (v + (1 : Int))) seed t2 (all ++ (Vector.toList (shaSum (Vector.toList (secV seed (UInt8.ofInt k_) (UInt8.ofInt v))))))
        else none
      else none)
      else (ref13_Key_h0 k (w64 (k_ + (1 : Int))) seed t2 all)) := by kernel_rfl
/-- moneyer/moneyerref13.Key -/
def ref13_Key (k : Nat) (seed : Vector UInt8 32) : Option (Vector UInt8 32) :=
  ref13_Key_h0 k (0 : Int) seed (Vector.replicate (32 : Nat) (0 : UInt8)) ([] : List UInt8)
theorem ref13_Key_q (k : Nat) (seed : Vector UInt8 32) : ref13_Key k seed = (ref13_Key_h0 k (0 : Int) seed (Vector.replicate (32 : Nat) (0 : UInt8)) ([] : List UInt8)) := by kernel_rfl
theorem ref13_Key_spec (seed : Vector UInt8 32) : Ev (fun k => ref13_Key k seed) (keyV seed) := by
  refine Ev.same (fun k => ref13_Key_q k seed) ?_
  rw [keyV_eq, ← keyU_done]
  refine Ev.rise (n := 32) (H := fun k i s => ref13_Key_h0 k i seed (Vector.replicate 32 0) s) (keyU seed) (fun i hi ih => ?_) ?_ 32 0 (by omega)
  · have hc := keyU_len seed (k := i) (by omega)
    have l1 : ∀ v, (shaSum (secV seed (UInt8.ofNat i) v).toList).toList.length = 32 := fun v => Vector.length_toList
    have q1 : (keyU seed i ++ (shaSum (secV seed (UInt8.ofNat i) 0).toList).toList).length = 64 * i + 32 := by rw [List.length_append, hc, l1]
    have q2 : (keyU seed i ++ (shaSum (secV seed (UInt8.ofNat i) 0).toList).toList ++ (shaSum (secV seed (UInt8.ofNat i) 1).toList).toList).length = 64 * i + 64 := by rw [List.length_append, q1, l1]
    have u0 : UInt8.ofInt (0 : Int) = 0 := rfl
    have u1 : UInt8.ofInt (1 : Int) = 1 := rfl
    refine Ev.step (g := fun k => ref13_Key_h2 k (i : Int) 0 seed (Vector.replicate 32 0) (keyU seed i)) (fun k => ?_) ?_
    · show ref13_Key_h0 (k + 1) (i : Int) seed _ (keyU seed i) = _
      rw [ref13_Key_h0_q, bif_pos (by omega)]
    refine Ev.step (g := fun k => ref13_Key_h2 k (i : Int) 1 seed (Vector.replicate 32 0) (keyU seed i ++ (shaSum (secV seed (UInt8.ofNat i) 0).toList).toList)) (fun k => ?_) ?_
    · show ref13_Key_h2 (k + 1) (i : Int) 0 seed _ (keyU seed i) = _
      rw [ref13_Key_h2_q, bif_pos (by decide)]
      simp only [u8_ofInt, u0, q1, Vector.length_toList]
      rw [if_pos (by decide), if_pos ⟨by omega, by omega⟩]
      rfl
    refine Ev.step (g := fun k => ref13_Key_h2 k (i : Int) 2 seed (Vector.replicate 32 0) (keyU seed (i + 1))) (fun k => ?_) ?_
    · show ref13_Key_h2 (k + 1) (i : Int) 1 seed _ (keyU seed i ++ (shaSum (secV seed (UInt8.ofNat i) 0).toList).toList) = _
      rw [ref13_Key_h2_q, bif_pos (by decide)]
      simp only [u8_ofInt, u1, q2, Vector.length_toList]
      rw [if_pos (by decide), if_pos ⟨by omega, by omega⟩, keyU_step seed hi, hhL_eq, hhL_eq]
      rfl
    refine Ev.step (fun k => ?_) ih
    show ref13_Key_h2 (k + 1) (i : Int) 2 seed _ (keyU seed (i + 1)) = ref13_Key_h0 k ((i : Int) + 1) seed _ (keyU seed (i + 1))
    rw [ref13_Key_h2_q, bif_neg (by decide), w64_id (by omega) (by omega)]
  · refine Ev.done fun k => ?_
    show ref13_Key_h0 (k + 1) ((32 : Nat) : Int) seed _ (keyU seed 32) = _
    rw [ref13_Key_h0_q, bif_neg (by omega), if_pos (by rw [keyU_len seed (Nat.le_refl _)]; decide)]

end
end Go.Proofs.YtkjillpcmffgoaaDoor.M

namespace Go.Proofs.YtkjillpcmffgoaaDoor.M
open Go
noncomputable section
/-- the loop 0 of moneyer/moneyerref13.Sign -/
def ref13_Sign_h0 : Nat → UInt8 → (Vector UInt8 32) → (Vector UInt8 32) → (List UInt8) → Option (List UInt8)
  | 0, _, _, _, _ => none
  | k + 1, k_, seed, digest, out => bif decide (k_ < (32 : UInt8)) then (if (((List.length (out ++ (Vector.toList (secV seed k_ (bitV digest k_))))) * (1 : Nat)) ≤ (70368744177664 : Nat)) ∧ ((List.length (out ++ (Vector.toList (secV seed k_ (bitV digest k_))))) ≤ (70368744177664 : Nat)) then
        if (List.length (Vector.toList (secV seed k_ ((1 : UInt8) - (bitV digest k_))))) ≤ (1099511627776 : Nat) then
          if (((List.length ((out ++ (Vector.toList (secV seed k_ (bitV digest k_)))) ++ (Vector.toList (shaSum (Vector.toList (secV seed k_ ((1 : UInt8) - (bitV digest k_)))))))) * (1 : Nat)) ≤ (70368744177664 : Nat)) ∧ ((List.length ((out ++ (Vector.toList (secV seed k_ (bitV digest k_)))) ++ (Vector.toList (shaSum (Vector.toList (secV seed k_ ((1 : UInt8) - (bitV digest k_)))))))) ≤ (70368744177664 : Nat)) then
            ref13_Sign_h0 k (k_ + (1 : UInt8)) seed digest ((out ++ (Vector.toList (secV seed k_ (bitV digest k_)))) ++ (Vector.toList (shaSum (Vector.toList (secV seed k_ ((1 : UInt8) - (bitV digest k_)))))))
          else none
        else none
      else none)
      else (some out)
theorem ref13_Sign_h0_q (k : Nat) (k_ : UInt8) (seed : Vector UInt8 32) (digest : Vector UInt8 32) (out : List UInt8) : ref13_Sign_h0 (k + 1) k_ seed digest out =
  (bif decide (k_ < (32 : UInt8)) then (if (((List.length (out ++ (Vector.toList (secV seed k_ (bitV digest k_))))) * (1 : Nat)) ≤ (70368744177664 : Nat)) ∧ ((List.length (out ++ (Vector.toList (secV seed k_ (bitV digest k_))))) ≤ (70368744177664 : Nat)) then
        if (List.length (Vector.toList (secV seed k_ ((1 : UInt8) - (bitV digest k_))))) ≤ (1099511627776 : Nat) then
          if (((List.length ((out ++ (Vector.toList (secV seed k_ (bitV digest k_)))) ++ (Vector.toList (shaSum (Vector.toList (secV seed k_ ((1 : UInt8) - (bitV digest k_)))))))) * (1 : Nat)) ≤ (70368744177664 : Nat)) ∧ ((List.length ((out ++ (Vector.toList (secV seed k_ (bitV digest k_)))) ++ (Vector.toList (shaSum (Vector.toList (secV seed k_ ((1 : UInt8) - (bitV digest k_)))))))) ≤ (70368744177664 : Nat)) then
            ref13_Sign_h0 k (k_ + (1 : UInt8)) seed digest ((out ++ (Vector.toList (secV seed k_ (bitV digest k_)))) ++ (Vector.toList (shaSum (Vector.toList (secV seed k_ ((1 : UInt8) - (bitV digest k_)))))))
          else none
        else none
      else none)
      else (some out)) := by kernel_rfl
/-- moneyer/moneyerref13.Sign -/
def ref13_Sign (k : Nat) (seed : Vector UInt8 32) (digest : Vector UInt8 32) : Option (List UInt8) :=
  ref13_Sign_h0 k (0 : UInt8) seed digest ([] : List UInt8)
theorem ref13_Sign_q (k : Nat) (seed : Vector UInt8 32) (digest : Vector UInt8 32) : ref13_Sign k seed digest = (ref13_Sign_h0 k (0 : UInt8) seed digest ([] : List UInt8)) := by kernel_rfl
theorem ref13_Sign_spec (seed d : Vector UInt8 32) : Ev (fun k => ref13_Sign k seed d) (sigL seed d) := by
  refine Ev.same (fun k => ref13_Sign_q k seed d) ?_
  rw [← sigU_done]
  have gen : ∀ j i : Nat, i + j = 32 → Ev (fun k => ref13_Sign_h0 k (UInt8.ofNat i) seed d (sigU seed d i)) (sigU seed d 32) := by
    intro j
    induction j with
    | zero =>
      intro i hi
      have : i = 32 := by omega
      subst this
      refine Ev.done fun k => ?_
      rw [ref13_Sign_h0_q, bif_neg (by decide)]
    | succ j ih =>
      intro i hi
      refine Ev.step (fun k => ?_) (ih (i + 1) (by omega))
      have hc := sigU_len seed d (k := i) (by omega)
      have l1 : ∀ v, (shaSum (secV seed (UInt8.ofNat i) v).toList).toList.length = 32 := fun v => Vector.length_toList
      have q1 : (sigU seed d i ++ (secV seed (UInt8.ofNat i) (bitV d (UInt8.ofNat i))).toList).length = 64 * i + 32 := by rw [List.length_append, hc, Vector.length_toList]
      have q2 : (sigU seed d i ++ (secV seed (UInt8.ofNat i) (bitV d (UInt8.ofNat i))).toList ++ (shaSum (secV seed (UInt8.ofNat i) (1 - bitV d (UInt8.ofNat i))).toList).toList).length = 64 * i + 64 := by rw [List.length_append, q1, l1]
      rw [ref13_Sign_h0_q, bif_pos (by rw [UInt8.lt_iff_toNat_lt, UInt8.toNat_ofNat']; show i % 2 ^ 8 < 32; omega)]
      simp only [q1, q2, Vector.length_toList]
      rw [if_pos ⟨by omega, by omega⟩, if_pos (by omega), if_pos ⟨by omega, by omega⟩, sigU_step seed d (by omega), hhL_eq]
      congr 1
      apply UInt8.toNat_inj.1
      rw [UInt8.toNat_add, UInt8.toNat_ofNat', UInt8.toNat_ofNat']
      show (i % 2 ^ 8 + 1) % 2 ^ 8 = (i + 1) % 2 ^ 8
      omega
  exact gen 32 0 (by omega)

end
end Go.Proofs.YtkjillpcmffgoaaDoor.M

namespace Go.Proofs.YtkjillpcmffgoaaDoor.M
open Go
noncomputable section
set_option maxRecDepth 100000
set_option maxHeartbeats 0
noncomputable def ref13_bytes_T : Tbl := []
noncomputable def ref13_bytes_C : CfgW := mkC Tryd.prog theG ref13_bytes_T 16 0 false
def ref13_bytes_lv : Nat → List Nat := fun i => bif Nat.beq i 0 then [1, 3, 4] else []
noncomputable abbrev ref13_bytes_b : Code := Tryd.f56.body.getD .skip
noncomputable abbrev ref13_bytes_r : List ResultVar := Tryd.f56.results.toList
def ref13_bytes_hs : List Nat := []

def ref13_bytes_enc (r : List UInt8) : CallOut := ⟨.o 60000, [(60000, .row (.s .u8 r) false)], true, []⟩
def ref13_bytes_s0 (i : Int) (h_ : Vector UInt8 32) (b : List UInt8) : St := ⟨[(1, .p 60000 []), (3, .o 60001), (4, .pv (.sc .i i))], [(60000, .box (.pv (.arr .u8 32 h_))), (60001, .row (.s .u8 b) false)]⟩
theorem ref13_bytes_g0 (i : Int) (h_ : Vector UInt8 32) (b : List UInt8) (Q : CallOut → Prop) : headRound ref13_bytes_C ref13_bytes_lv [true, true, false, true, false] ref13_bytes_b (ref13_bytes_s0 i h_ b) (fnK ref13_bytes_C ref13_bytes_r ref13_bytes_hs Q) =
    (condP (decide (i < (32 : Int))) ((((0 : Int) ≤ i) ∧ (i < (32 : Int))) ∧ (((((List.length (b ++ ([(List.getD (Vector.toList h_) (Int.toNat i) (0 : UInt8))] : List UInt8))) * (1 : Nat)) ≤ (70368744177664 : Nat)) ∧ ((List.length (b ++ ([(List.getD (Vector.toList h_) (Int.toNat i) (0 : UInt8))] : List UInt8))) ≤ (70368744177664 : Nat))) ∧ (headP ref13_bytes_C ref13_bytes_lv [true, true, false, true, false] ref13_bytes_b (ref13_bytes_s0 (w64 (i + (1 : Int))) h_ (b ++ ([(List.getD (Vector.toList h_) (Int.toNat i) (0 : UInt8))] : List UInt8))) (fnK ref13_bytes_C ref13_bytes_r ref13_bytes_hs Q)))) (Q (ref13_bytes_enc b))) := by kernel_rfl
theorem ref13_bytes_k0 {r : List UInt8} {Q : CallOut → Prop} (hQ : Q (ref13_bytes_enc r)) : ∀ k : Nat, (∀ (i : Int) (h_ : Vector UInt8 32) (b : List UInt8), ref13_bytes_h0 k i h_ b = some r → headP ref13_bytes_C ref13_bytes_lv [true, true, false, true, false] ref13_bytes_b (ref13_bytes_s0 i h_ b) (fnK ref13_bytes_C ref13_bytes_r ref13_bytes_hs Q))
  | 0 => fun _ _ _ h => no_ok h
  | k + 1 => fun i h_ b h => headP_step (Eq.mpr (ref13_bytes_g0 i h_ b Q) (have h := (ref13_bytes_h0_q k i h_ b).symm.trans h; cond_ok h (fun h => ite_ok h fun hc0 h => ite_ok h fun hc1 h => (ref13_bytes_k0 hQ k) _ _ _ h) (fun h => ret_ok (Q := Q) (e := ref13_bytes_enc) h hQ)))
theorem ref13_bytes_e (h_0 : Vector UInt8 32) (Q : CallOut → Prop) : evalFnP ref13_bytes_C ref13_bytes_lv ref13_bytes_r ref13_bytes_hs ref13_bytes_b [.pv (.arr .u8 32 h_0)] [] Q =
    (headP ref13_bytes_C ref13_bytes_lv [true, true, false, true, false] ref13_bytes_b (ref13_bytes_s0 (0 : Int) h_0 ([] : List UInt8)) (fnK ref13_bytes_C ref13_bytes_r ref13_bytes_hs Q)) := by kernel_rfl
theorem ref13_bytes_w {k : Nat} (h_0 : Vector UInt8 32) {r} {Q : CallOut → Prop} (h : ref13_bytes k h_0 = some r) (hQ : Q (ref13_bytes_enc r)) : evalFnP ref13_bytes_C ref13_bytes_lv ref13_bytes_r ref13_bytes_hs ref13_bytes_b [.pv (.arr .u8 32 h_0)] [] Q :=
  Eq.mpr (ref13_bytes_e h_0 Q) (have h := (ref13_bytes_q k h_0).symm.trans h; (ref13_bytes_k0 hQ _) _ _ _ h)
def ref13_bytes_c : Ans
  | [.pv (.arr .u8 32 h_0)], [] => some (none, ref13_bytes_enc (h_0.toList))
  | _, _ => none
theorem ref13_bytes_tok : TblOK Tryd.prog theG ref13_bytes_T := .nil
theorem ref13_bytes_ok : FnOK Tryd.prog theG 56 (unW ref13_bytes_c) := by
  refine FnOK.ofC (T := ref13_bytes_T) (nt := 16) (np := 0) (mv := []) (nf := false) (hs := ref13_bytes_hs) (fn := Tryd.f56) (body := ref13_bytes_b) ref13_bytes_tok (by kernel_rfl) (by kernel_rfl) (by kernel_rfl) (by kernel_rfl) (c := ref13_bytes_c) (lv := ref13_bytes_lv) ?_
  intro xs mem p out h hp
  unfold ref13_bytes_c at h
  split at h
  · cases h
    obtain ⟨k, hk⟩ := ref13_bytes_spec _
    exact ref13_bytes_w _ hk rfl
  · cases h
end
end Go.Proofs.YtkjillpcmffgoaaDoor.M

namespace Go.Proofs.YtkjillpcmffgoaaDoor.M
open Go
noncomputable section
set_option maxRecDepth 100000
set_option maxHeartbeats 0
noncomputable def ref13_Secret_T : Tbl := [(56, [], ref13_bytes_c), (48, [], ref02_Sum_c)]
noncomputable def ref13_Secret_C : CfgW := mkC Tryd.prog theG ref13_Secret_T 14 0 false
def ref13_Secret_lv : Nat → List Nat := fun i => []
noncomputable abbrev ref13_Secret_b : Code := Tryd.f34.body.getD .skip
noncomputable abbrev ref13_Secret_r : List ResultVar := Tryd.f34.results.toList
def ref13_Secret_hs : List Nat := []

def ref13_Secret_enc (r : Vector UInt8 32) : CallOut := ⟨.pv (.arr .u8 32 r), [], true, []⟩
theorem ref13_Secret_e (seed : Vector UInt8 32) (k_1 : UInt8) (v : UInt8) (Q : CallOut → Prop) : evalFnP ref13_Secret_C ref13_Secret_lv ref13_Secret_r ref13_Secret_hs ref13_Secret_b [.pv (.arr .u8 32 seed), .pv (.sc .u8 k_1), .pv (.sc .u8 v)] [] Q =
    (((((List.length ((Vector.toList seed) ++ ([k_1, v] : List UInt8))) * (1 : Nat)) ≤ (70368744177664 : Nat)) ∧ ((List.length ((Vector.toList seed) ++ ([k_1, v] : List UInt8))) ≤ (70368744177664 : Nat))) ∧ (((List.length ((Vector.toList seed) ++ ([k_1, v] : List UInt8))) ≤ (1099511627776 : Nat)) ∧ (Q (ref13_Secret_enc (shaSum ((Vector.toList seed) ++ ([k_1, v] : List UInt8))))))) := by kernel_rfl
theorem ref13_Secret_w (seed : Vector UInt8 32) (k_1 : UInt8) (v : UInt8) {r} {Q : CallOut → Prop} (h : ref13_Secret seed k_1 v = some r) (hQ : Q (ref13_Secret_enc r)) : evalFnP ref13_Secret_C ref13_Secret_lv ref13_Secret_r ref13_Secret_hs ref13_Secret_b [.pv (.arr .u8 32 seed), .pv (.sc .u8 k_1), .pv (.sc .u8 v)] [] Q :=
  Eq.mpr (ref13_Secret_e seed k_1 v Q) (have h := (ref13_Secret_q seed k_1 v).symm.trans h; ite_ok h fun hc0 h => ite_ok h fun hc1 h => ret_ok (Q := Q) (e := ref13_Secret_enc) h hQ)
def ref13_Secret_c : Ans
  | [.pv (.arr .u8 32 seed), .pv (.sc .u8 k_1), .pv (.sc .u8 v)], [] => some (none, ref13_Secret_enc (secV seed k_1 v))
  | _, _ => none
theorem ref13_Secret_tok : TblOK Tryd.prog theG ref13_Secret_T := .cons ⟨by kernel_rfl, ref13_bytes_ok⟩ (.cons ⟨by kernel_rfl, ref02_Sum_ok⟩ (.nil))
theorem ref13_Secret_ok : FnOK Tryd.prog theG 34 (unW ref13_Secret_c) := by
  refine FnOK.ofC (T := ref13_Secret_T) (nt := 14) (np := 0) (mv := []) (nf := false) (hs := ref13_Secret_hs) (fn := Tryd.f34) (body := ref13_Secret_b) ref13_Secret_tok (by kernel_rfl) (by kernel_rfl) (by kernel_rfl) (by kernel_rfl) (c := ref13_Secret_c) (lv := ref13_Secret_lv) ?_
  intro xs mem p out h hp
  unfold ref13_Secret_c at h
  split at h
  · cases h
    exact ref13_Secret_w _ _ _ (ref13_Secret_spec _ _ _) rfl
  · cases h
end
end Go.Proofs.YtkjillpcmffgoaaDoor.M

namespace Go.Proofs.YtkjillpcmffgoaaDoor.M
open Go
noncomputable section
set_option maxRecDepth 100000
set_option maxHeartbeats 0
noncomputable def ref13_Bit_T : Tbl := []
noncomputable def ref13_Bit_C : CfgW := mkC Tryd.prog theG ref13_Bit_T 22 0 false
def ref13_Bit_lv : Nat → List Nat := fun i => bif Nat.beq i 0 then [1, 5, 6] else []
noncomputable abbrev ref13_Bit_b : Code := Tryd.f36.body.getD .skip
noncomputable abbrev ref13_Bit_r : List ResultVar := Tryd.f36.results.toList
def ref13_Bit_hs : List Nat := []

def ref13_Bit_enc (r : UInt8) : CallOut := ⟨.pv (.sc .u8 r), [], true, []⟩
def ref13_Bit_s0 (k_ : UInt8) (n : UInt8) (i : UInt8) : St := ⟨[(1, .pv (.sc .u8 k_)), (5, .pv (.sc .u8 n)), (6, .pv (.sc .u8 i))], []⟩
theorem ref13_Bit_g0 (k_ : UInt8) (n : UInt8) (i : UInt8) (Q : CallOut → Prop) : headRound ref13_Bit_C ref13_Bit_lv [true, true, false, true, false] ref13_Bit_b (ref13_Bit_s0 k_ n i) (fnK ref13_Bit_C ref13_Bit_r ref13_Bit_hs Q) =
    (((8 : UInt8) ≠ (0 : UInt8)) ∧ (condP (decide (i < (k_ % (8 : UInt8)))) (((2 : UInt8) ≠ (0 : UInt8)) ∧ (headP ref13_Bit_C ref13_Bit_lv [true, true, false, true, false] ref13_Bit_b (ref13_Bit_s0 k_ (n / (2 : UInt8)) (i + (1 : UInt8))) (fnK ref13_Bit_C ref13_Bit_r ref13_Bit_hs Q))) (((2 : UInt8) ≠ (0 : UInt8)) ∧ (Q (ref13_Bit_enc (n % (2 : UInt8))))))) := by kernel_rfl
theorem ref13_Bit_k0 {r : UInt8} {Q : CallOut → Prop} (hQ : Q (ref13_Bit_enc r)) : ∀ k : Nat, (∀ (k_ : UInt8) (n : UInt8) (i : UInt8), ref13_Bit_h0 k k_ n i = some r → headP ref13_Bit_C ref13_Bit_lv [true, true, false, true, false] ref13_Bit_b (ref13_Bit_s0 k_ n i) (fnK ref13_Bit_C ref13_Bit_r ref13_Bit_hs Q))
  | 0 => fun _ _ _ h => no_ok h
  | k + 1 => fun k_ n i h => headP_step (Eq.mpr (ref13_Bit_g0 k_ n i Q) (have h := (ref13_Bit_h0_q k k_ n i).symm.trans h; ⟨by decide +kernel, cond_ok h (fun h => ⟨by decide +kernel, (ref13_Bit_k0 hQ k) _ _ _ h⟩) (fun h => ⟨by decide +kernel, ret_ok (Q := Q) (e := ref13_Bit_enc) h hQ⟩)⟩))
theorem ref13_Bit_e (digest : Vector UInt8 32) (k_1 : UInt8) (Q : CallOut → Prop) : evalFnP ref13_Bit_C ref13_Bit_lv ref13_Bit_r ref13_Bit_hs ref13_Bit_b [.pv (.arr .u8 32 digest), .pv (.sc .u8 k_1)] [] Q =
    (((32 : UInt8) ≠ (0 : UInt8)) ∧ (((8 : UInt8) ≠ (0 : UInt8)) ∧ ((((0 : Int) ≤ (((UInt8.toNat ((k_1 % (32 : UInt8)) / (8 : UInt8))) : Nat) : Int)) ∧ ((((UInt8.toNat ((k_1 % (32 : UInt8)) / (8 : UInt8))) : Nat) : Int) < (32 : Int))) ∧ (headP ref13_Bit_C ref13_Bit_lv [true, true, false, true, false] ref13_Bit_b (ref13_Bit_s0 k_1 (List.getD (Vector.toList digest) (Int.toNat (((UInt8.toNat ((k_1 % (32 : UInt8)) / (8 : UInt8))) : Nat) : Int)) (0 : UInt8)) (0 : UInt8)) (fnK ref13_Bit_C ref13_Bit_r ref13_Bit_hs Q))))) := by kernel_rfl
theorem ref13_Bit_w {k : Nat} (digest : Vector UInt8 32) (k_1 : UInt8) {r} {Q : CallOut → Prop} (h : ref13_Bit k digest k_1 = some r) (hQ : Q (ref13_Bit_enc r)) : evalFnP ref13_Bit_C ref13_Bit_lv ref13_Bit_r ref13_Bit_hs ref13_Bit_b [.pv (.arr .u8 32 digest), .pv (.sc .u8 k_1)] [] Q :=
  Eq.mpr (ref13_Bit_e digest k_1 Q) (have h := (ref13_Bit_q k digest k_1).symm.trans h; ⟨by decide +kernel, ⟨by decide +kernel, ite_ok h fun hc0 h => (ref13_Bit_k0 hQ _) _ _ _ h⟩⟩)
def ref13_Bit_c : Ans
  | [.pv (.arr .u8 32 digest), .pv (.sc .u8 k_1)], [] => some (none, ref13_Bit_enc (bitV digest k_1))
  | _, _ => none
theorem ref13_Bit_tok : TblOK Tryd.prog theG ref13_Bit_T := .nil
theorem ref13_Bit_ok : FnOK Tryd.prog theG 36 (unW ref13_Bit_c) := by
  refine FnOK.ofC (T := ref13_Bit_T) (nt := 22) (np := 0) (mv := []) (nf := false) (hs := ref13_Bit_hs) (fn := Tryd.f36) (body := ref13_Bit_b) ref13_Bit_tok (by kernel_rfl) (by kernel_rfl) (by kernel_rfl) (by kernel_rfl) (c := ref13_Bit_c) (lv := ref13_Bit_lv) ?_
  intro xs mem p out h hp
  unfold ref13_Bit_c at h
  split at h
  · cases h
    obtain ⟨k, hk⟩ := ref13_Bit_spec _ _
    exact ref13_Bit_w _ _ hk rfl
  · cases h
end
end Go.Proofs.YtkjillpcmffgoaaDoor.M

namespace Go.Proofs.YtkjillpcmffgoaaDoor.M
open Go
noncomputable section
set_option maxRecDepth 100000
set_option maxHeartbeats 0
noncomputable def ref13_Key_T : Tbl := [(34, [], ref13_Secret_c), (56, [], ref13_bytes_c), (48, [], ref02_Sum_c)]
noncomputable def ref13_Key_C : CfgW := mkC Tryd.prog theG ref13_Key_T 27 0 false
def ref13_Key_lv : Nat → List Nat := fun i => bif Nat.beq i 2 then [1, 2, 3, 4, 5] else bif Nat.beq i 0 then [1, 2, 3, 4] else []
noncomputable abbrev ref13_Key_b : Code := Tryd.f38.body.getD .skip
noncomputable abbrev ref13_Key_r : List ResultVar := Tryd.f38.results.toList
def ref13_Key_hs : List Nat := []

def ref13_Key_enc (r : Vector UInt8 32) : CallOut := ⟨.pv (.arr .u8 32 r), [], true, []⟩
def ref13_Key_s0 (k_ : Int) (seed : Vector UInt8 32) (t2 : Vector UInt8 32) (all : List UInt8) : St := ⟨[(1, .p 60000 []), (2, .p 60001 []), (3, .o 60002), (4, .pv (.sc .i k_))], [(60000, .box (.pv (.arr .u8 32 seed))), (60001, .box (.pv (.arr .u8 32 t2))), (60002, .row (.s .u8 all) false)]⟩
def ref13_Key_s2 (k_ : Int) (v : Int) (seed : Vector UInt8 32) (t2 : Vector UInt8 32) (all : List UInt8) : St := ⟨[(1, .p 60000 []), (2, .p 60001 []), (3, .o 60002), (4, .pv (.sc .i k_)), (5, .pv (.sc .i v))], [(60000, .box (.pv (.arr .u8 32 seed))), (60001, .box (.pv (.arr .u8 32 t2))), (60002, .row (.s .u8 all) false)]⟩
theorem ref13_Key_g0 (k_ : Int) (seed : Vector UInt8 32) (t2 : Vector UInt8 32) (all : List UInt8) (Q : CallOut → Prop) : headRound ref13_Key_C ref13_Key_lv [true, true, false, true, false] ref13_Key_b (ref13_Key_s0 k_ seed t2 all) (fnK ref13_Key_C ref13_Key_r ref13_Key_hs Q) =
    (condP (decide (k_ < (32 : Int))) (headP ref13_Key_C ref13_Key_lv [true, true, false, true, false, false, true, false, false, true, false] ref13_Key_b (ref13_Key_s2 k_ (0 : Int) seed t2 all) (fnK ref13_Key_C ref13_Key_r ref13_Key_hs Q)) (((List.length all) ≤ (1099511627776 : Nat)) ∧ (Q (ref13_Key_enc (shaSum all))))) := by kernel_rfl
theorem ref13_Key_g2 (k_ : Int) (v : Int) (seed : Vector UInt8 32) (t2 : Vector UInt8 32) (all : List UInt8) (Q : CallOut → Prop) : headRound ref13_Key_C ref13_Key_lv [true, true, false, true, false, false, true, false, false, true, false] ref13_Key_b (ref13_Key_s2 k_ v seed t2 all) (fnK ref13_Key_C ref13_Key_r ref13_Key_hs Q) =
    (condP (decide (v < (2 : Int))) (((List.length (Vector.toList (secV seed (UInt8.ofInt k_) (UInt8.ofInt v)))) ≤ (1099511627776 : Nat)) ∧ (((((List.length (all ++ (Vector.toList (shaSum (Vector.toList (secV seed (UInt8.ofInt k_) (UInt8.ofInt v))))))) * (1 : Nat)) ≤ (70368744177664 : Nat)) ∧ ((List.length (all ++ (Vector.toList (shaSum (Vector.toList (secV seed (UInt8.ofInt k_) (UInt8.ofInt v))))))) ≤ (70368744177664 : Nat))) ∧ (headP ref13_Key_C ref13_Key_lv [true, true, false, true, false, false, true, false, false, true, false] ref13_Key_b (ref13_Key_s2 k_ (w64 (v + (1 : Int))) seed t2 (all ++ (Vector.toList (shaSum (Vector.toList (secV seed (UInt8.ofInt k_) (UInt8.ofInt v))))))) (fnK ref13_Key_C ref13_Key_r ref13_Key_hs Q)))) (headP ref13_Key_C ref13_Key_lv [true, true, false, true, false] ref13_Key_b (ref13_Key_s0 (w64 (k_ + (1 : Int))) seed t2 all) (fnK ref13_Key_C ref13_Key_r ref13_Key_hs Q))) := by kernel_rfl
theorem ref13_Key_k0 {r : Vector UInt8 32} {Q : CallOut → Prop} (hQ : Q (ref13_Key_enc r)) : ∀ k : Nat, (∀ (k_ : Int) (seed : Vector UInt8 32) (t2 : Vector UInt8 32) (all : List UInt8), ref13_Key_h0 k k_ seed t2 all = some r → headP ref13_Key_C ref13_Key_lv [true, true, false, true, false] ref13_Key_b (ref13_Key_s0 k_ seed t2 all) (fnK ref13_Key_C ref13_Key_r ref13_Key_hs Q)) ∧ (∀ (k_ : Int) (v : Int) (seed : Vector UInt8 32) (t2 : Vector UInt8 32) (all : List UInt8), ref13_Key_h2 k k_ v seed t2 all = some r → headP ref13_Key_C ref13_Key_lv [true, true, false, true, false, false, true, false, false, true, false] ref13_Key_b (ref13_Key_s2 k_ v seed t2 all) (fnK ref13_Key_C ref13_Key_r ref13_Key_hs Q))
  | 0 => ⟨fun _ _ _ _ h => no_ok h, fun _ _ _ _ _ h => no_ok h⟩
  | k + 1 => ⟨fun k_ seed t2 all h => headP_step (Eq.mpr (ref13_Key_g0 k_ seed t2 all Q) (have h := (ref13_Key_h0_q k k_ seed t2 all).symm.trans h; cond_ok h (fun h => (ref13_Key_k0 hQ k).2 _ _ _ _ _ h) (fun h => ite_ok h fun hc0 h => ret_ok (Q := Q) (e := ref13_Key_enc) h hQ))),
    fun k_ v seed t2 all h => headP_step (Eq.mpr (ref13_Key_g2 k_ v seed t2 all Q) (have h := (ref13_Key_h2_q k k_ v seed t2 all).symm.trans h; cond_ok h (fun h => ite_ok h fun hc0 h => ite_ok h fun hc1 h => (ref13_Key_k0 hQ k).2 _ _ _ _ _ h) (fun h => (ref13_Key_k0 hQ k).1 _ _ _ _ h)))⟩
theorem ref13_Key_e (seed : Vector UInt8 32) (Q : CallOut → Prop) : evalFnP ref13_Key_C ref13_Key_lv ref13_Key_r ref13_Key_hs ref13_Key_b [.pv (.arr .u8 32 seed)] [] Q =
    (headP ref13_Key_C ref13_Key_lv [true, true, false, true, false] ref13_Key_b (ref13_Key_s0 (0 : Int) seed (Vector.replicate (32 : Nat) (0 : UInt8)) ([] : List UInt8)) (fnK ref13_Key_C ref13_Key_r ref13_Key_hs Q)) := by kernel_rfl
theorem ref13_Key_w {k : Nat} (seed : Vector UInt8 32) {r} {Q : CallOut → Prop} (h : ref13_Key k seed = some r) (hQ : Q (ref13_Key_enc r)) : evalFnP ref13_Key_C ref13_Key_lv ref13_Key_r ref13_Key_hs ref13_Key_b [.pv (.arr .u8 32 seed)] [] Q :=
  Eq.mpr (ref13_Key_e seed Q) (have h := (ref13_Key_q k seed).symm.trans h; (ref13_Key_k0 hQ _).1 _ _ _ _ h)
def ref13_Key_c : Ans
  | [.pv (.arr .u8 32 seed)], [] => some (none, ref13_Key_enc (keyV seed))
  | _, _ => none
theorem ref13_Key_tok : TblOK Tryd.prog theG ref13_Key_T := .cons ⟨by kernel_rfl, ref13_Secret_ok⟩ (.cons ⟨by kernel_rfl, ref13_bytes_ok⟩ (.cons ⟨by kernel_rfl, ref02_Sum_ok⟩ (.nil)))
theorem ref13_Key_ok : FnOK Tryd.prog theG 38 (unW ref13_Key_c) := by
  refine FnOK.ofC (T := ref13_Key_T) (nt := 27) (np := 0) (mv := []) (nf := false) (hs := ref13_Key_hs) (fn := Tryd.f38) (body := ref13_Key_b) ref13_Key_tok (by kernel_rfl) (by kernel_rfl) (by kernel_rfl) (by kernel_rfl) (c := ref13_Key_c) (lv := ref13_Key_lv) ?_
  intro xs mem p out h hp
  unfold ref13_Key_c at h
  split at h
  · cases h
    obtain ⟨k, hk⟩ := ref13_Key_spec _
    exact ref13_Key_w _ hk rfl
  · cases h
end
end Go.Proofs.YtkjillpcmffgoaaDoor.M

namespace Go.Proofs.YtkjillpcmffgoaaDoor.M
open Go
noncomputable section
set_option maxRecDepth 100000
set_option maxHeartbeats 0
noncomputable def ref13_Sign_T : Tbl := [(36, [], ref13_Bit_c), (34, [], ref13_Secret_c), (56, [], ref13_bytes_c), (48, [], ref02_Sum_c)]
noncomputable def ref13_Sign_C : CfgW := mkC Tryd.prog theG ref13_Sign_T 33 0 false
def ref13_Sign_lv : Nat → List Nat := fun i => bif Nat.beq i 0 then [2, 3, 5, 6] else []
noncomputable abbrev ref13_Sign_b : Code := Tryd.f40.body.getD .skip
noncomputable abbrev ref13_Sign_r : List ResultVar := Tryd.f40.results.toList
def ref13_Sign_hs : List Nat := []

def ref13_Sign_enc (r : List UInt8) : CallOut := ⟨.o 60000, [(60000, .row (.s .u8 r) false)], true, []⟩
def ref13_Sign_s0 (k_ : UInt8) (seed : Vector UInt8 32) (digest : Vector UInt8 32) (out : List UInt8) : St := ⟨[(2, .p 60000 []), (3, .p 60001 []), (5, .o 60002), (6, .pv (.sc .u8 k_))], [(60000, .box (.pv (.arr .u8 32 seed))), (60001, .box (.pv (.arr .u8 32 digest))), (60002, .row (.s .u8 out) false)]⟩
theorem ref13_Sign_g0 (k_ : UInt8) (seed : Vector UInt8 32) (digest : Vector UInt8 32) (out : List UInt8) (Q : CallOut → Prop) : headRound ref13_Sign_C ref13_Sign_lv [true, true, false, true, false] ref13_Sign_b (ref13_Sign_s0 k_ seed digest out) (fnK ref13_Sign_C ref13_Sign_r ref13_Sign_hs Q) =
    (condP (decide (k_ < (32 : UInt8))) (((((List.length (out ++ (Vector.toList (secV seed k_ (bitV digest k_))))) * (1 : Nat)) ≤ (70368744177664 : Nat)) ∧ ((List.length (out ++ (Vector.toList (secV seed k_ (bitV digest k_))))) ≤ (70368744177664 : Nat))) ∧ (((List.length (Vector.toList (secV seed k_ ((1 : UInt8) - (bitV digest k_))))) ≤ (1099511627776 : Nat)) ∧ (((((List.length ((out ++ (Vector.toList (secV seed k_ (bitV digest k_)))) ++ (Vector.toList (shaSum (Vector.toList (secV seed k_ ((1 : UInt8) - (bitV digest k_)))))))) * (1 : Nat)) ≤ (70368744177664 : Nat)) ∧ ((List.length ((out ++ (Vector.toList (secV seed k_ (bitV digest k_)))) ++ (Vector.toList (shaSum (Vector.toList (secV seed k_ ((1 : UInt8) - (bitV digest k_)))))))) ≤ (70368744177664 : Nat))) ∧ (headP ref13_Sign_C ref13_Sign_lv [true, true, false, true, false] ref13_Sign_b (ref13_Sign_s0 (k_ + (1 : UInt8)) seed digest ((out ++ (Vector.toList (secV seed k_ (bitV digest k_)))) ++ (Vector.toList (shaSum (Vector.toList (secV seed k_ ((1 : UInt8) - (bitV digest k_)))))))) (fnK ref13_Sign_C ref13_Sign_r ref13_Sign_hs Q))))) (Q (ref13_Sign_enc out))) := by kernel_rfl
theorem ref13_Sign_k0 {r : List UInt8} {Q : CallOut → Prop} (hQ : Q (ref13_Sign_enc r)) : ∀ k : Nat, (∀ (k_ : UInt8) (seed : Vector UInt8 32) (digest : Vector UInt8 32) (out : List UInt8), ref13_Sign_h0 k k_ seed digest out = some r → headP ref13_Sign_C ref13_Sign_lv [true, true, false, true, false] ref13_Sign_b (ref13_Sign_s0 k_ seed digest out) (fnK ref13_Sign_C ref13_Sign_r ref13_Sign_hs Q))
  | 0 => fun _ _ _ _ h => no_ok h
  | k + 1 => fun k_ seed digest out h => headP_step (Eq.mpr (ref13_Sign_g0 k_ seed digest out Q) (have h := (ref13_Sign_h0_q k k_ seed digest out).symm.trans h; cond_ok h (fun h => ite_ok h fun hc0 h => ite_ok h fun hc1 h => ite_ok h fun hc2 h => (ref13_Sign_k0 hQ k) _ _ _ _ h) (fun h => ret_ok (Q := Q) (e := ref13_Sign_enc) h hQ)))
theorem ref13_Sign_e (seed : Vector UInt8 32) (digest : Vector UInt8 32) (Q : CallOut → Prop) : evalFnP ref13_Sign_C ref13_Sign_lv ref13_Sign_r ref13_Sign_hs ref13_Sign_b [.pv (.arr .u8 32 seed), .pv (.arr .u8 32 digest)] [] Q =
    (headP ref13_Sign_C ref13_Sign_lv [true, true, false, true, false] ref13_Sign_b (ref13_Sign_s0 (0 : UInt8) seed digest ([] : List UInt8)) (fnK ref13_Sign_C ref13_Sign_r ref13_Sign_hs Q)) := by kernel_rfl
theorem ref13_Sign_w {k : Nat} (seed : Vector UInt8 32) (digest : Vector UInt8 32) {r} {Q : CallOut → Prop} (h : ref13_Sign k seed digest = some r) (hQ : Q (ref13_Sign_enc r)) : evalFnP ref13_Sign_C ref13_Sign_lv ref13_Sign_r ref13_Sign_hs ref13_Sign_b [.pv (.arr .u8 32 seed), .pv (.arr .u8 32 digest)] [] Q :=
  Eq.mpr (ref13_Sign_e seed digest Q) (have h := (ref13_Sign_q k seed digest).symm.trans h; (ref13_Sign_k0 hQ _) _ _ _ _ h)
def ref13_Sign_c : Ans
  | [.pv (.arr .u8 32 seed), .pv (.arr .u8 32 digest)], [] => some (none, ref13_Sign_enc (sigL seed digest))
  | _, _ => none
theorem ref13_Sign_tok : TblOK Tryd.prog theG ref13_Sign_T := .cons ⟨by kernel_rfl, ref13_Bit_ok⟩ (.cons ⟨by kernel_rfl, ref13_Secret_ok⟩ (.cons ⟨by kernel_rfl, ref13_bytes_ok⟩ (.cons ⟨by kernel_rfl, ref02_Sum_ok⟩ (.nil))))
theorem ref13_Sign_ok : FnOK Tryd.prog theG 40 (unW ref13_Sign_c) := by
  refine FnOK.ofC (T := ref13_Sign_T) (nt := 33) (np := 0) (mv := []) (nf := false) (hs := ref13_Sign_hs) (fn := Tryd.f40) (body := ref13_Sign_b) ref13_Sign_tok (by kernel_rfl) (by kernel_rfl) (by kernel_rfl) (by kernel_rfl) (c := ref13_Sign_c) (lv := ref13_Sign_lv) ?_
  intro xs mem p out h hp
  unfold ref13_Sign_c at h
  split at h
  · cases h
    obtain ⟨k, hk⟩ := ref13_Sign_spec _ _
    exact ref13_Sign_w _ _ hk rfl
  · cases h
end
end Go.Proofs.YtkjillpcmffgoaaDoor.M
