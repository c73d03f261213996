/- Part of the proofs: what functions of the program do: plain functions, and the walks that show it. No condition. -/
import Derived.KernelRfl
import Derived.Test.YtkjillpcmffgoaaDoorProg
import Derived.Test.YtkjillpcmffgoaaDoorLe
import Derived.Test.YtkjillpcmffgoaaDoorSwords
import Derived.Test.YtkjillpcmffgoaaDoorSshaS
import Derived.Test.YtkjillpcmffgoaaDoorSmerS
import Derived.Test.YtkjillpcmffgoaaDoorSlampS
import Derived.Test.YtkjillpcmffgoaaDoorFref02
import Derived.Test.YtkjillpcmffgoaaDoorFref00
import Derived.Test.YtkjillpcmffgoaaDoorSshaK
set_option linter.unusedVariables false
set_option linter.unusedSimpArgs false
set_option autoImplicit false
namespace Go.Proofs.YtkjillpcmffgoaaDoor.M
open Go
noncomputable section
/-- the loop 0 of moneyer/moneyerref13.hash -/
def ref13_hash_h0 : Nat → (List UInt8) → Int → (Vector UInt8 32) → (Vector UInt8 32) → Option (Vector UInt8 32)
  | 0, _, _, _, _ => none
  | k + 1, b, i, t2, h_ => bif eqb (decide (i < (32 : Int))) true then (bif bif true then (decide (i < (((List.length b) : Nat) : Int))) else false then (if ((0 : Int) ≤ i) ∧ (i < (((List.length b) : Nat) : Int)) then
          if ((0 : Int) ≤ i) ∧ (i < (32 : Int)) then
            ref13_hash_h0 k b (w64 (i + (1 : Int))) t2 (Vector.setIfInBounds h_ (Int.toNat i) (List.getD b (Int.toNat i) (0 : UInt8)))
          else none
        else none)
        else (some h_))
      else (some h_)
theorem ref13_hash_h0_q (k : Nat) (b : List UInt8) (i : Int) (t2 : Vector UInt8 32) (h_ : Vector UInt8 32) : ref13_hash_h0 (k + 1) b i t2 h_ =
  (bif eqb (decide (i < (32 : Int))) true then (bif bif true then (decide (i < (((List.length b) : Nat) : Int))) else false then (if ((0 : Int) ≤ i) ∧ (i < (((List.length b) : Nat) : Int)) then
          if ((0 : Int) ≤ i) ∧ (i < (32 : Int)) then
            ref13_hash_h0 k b (w64 (i + (1 : Int))) t2 (Vector.setIfInBounds h_ (Int.toNat i) (List.getD b (Int.toNat i) (0 : UInt8)))
          else none
        else none)
        else (some h_))
      else (some h_)) := by kernel_rfl
/-- moneyer/moneyerref13.hash -/
def ref13_hash (k : Nat) (b : List UInt8) : Option (Vector UInt8 32) :=
  ref13_hash_h0 k b (0 : Int) (Vector.replicate (32 : Nat) (0 : UInt8)) (Vector.replicate (32 : Nat) (0 : UInt8))
theorem ref13_hash_q (k : Nat) (b : List UInt8) : ref13_hash k b = (ref13_hash_h0 k b (0 : Int) (Vector.replicate (32 : Nat) (0 : UInt8)) (Vector.replicate (32 : Nat) (0 : UInt8))) := by kernel_rfl
def hashUp (b : List UInt8) (i : Nat) : Vector UInt8 32 := Vector.ofFn fun j : Fin 32 => if j.val < i then b.getD j.val 0 else 0
theorem hashUp_step (b : List UInt8) (i : Nat) : Vector.setIfInBounds (hashUp b i) i (b.getD i 0) = hashUp b (i + 1) := by
  apply Vector.ext
  intro j hj
  rw [Vector.getElem_setIfInBounds]
  simp only [hashUp, Vector.getElem_ofFn]
  by_cases e : i = j
  · subst e; simp
  · rw [if_neg e]
    by_cases h : j < i
    · rw [if_pos h, if_pos (by omega)]
    · rw [if_neg h, if_neg (by omega)]
theorem hashUp_done {b : List UInt8} {i : Nat} (h : i = 32 ∨ b.length ≤ i) : hashUp b i = hash32 b := by
  apply Vector.ext
  intro j hj
  simp only [hashUp, hash32, Vector.getElem_ofFn]
  by_cases e : j < i
  · rw [if_pos e]
  · rw [if_neg e]
    have : b.length ≤ j := by omega
    simp [List.getD, List.getElem?_eq_none this]
theorem hashUp_0 (b : List UInt8) : hashUp b 0 = Vector.replicate 32 0 := by
  apply Vector.ext
  intro j hj
  simp [hashUp]
theorem ref13_hash_spec (b : List UInt8) : Ev (fun k => ref13_hash k b) (hash32 b) := by
  refine Ev.same (fun k => ref13_hash_q k b) ?_
  rw [← hashUp_0 b]
  by_cases hl : b.length < 32
  · refine Ev.rise (n := b.length) (H := fun k i s => ref13_hash_h0 k b i (hashUp b 0) s) (hashUp b) (fun i hi ih => ?_) ?_ b.length 0 (by omega)
    · refine Ev.step (fun k => ?_) ih
      show ref13_hash_h0 (k + 1) b (i : Int) (hashUp b 0) (hashUp b i) = ref13_hash_h0 k b ((i : Int) + 1) (hashUp b 0) (hashUp b (i + 1))
      rw [ref13_hash_h0_q, decide_eq_true (p := (i : Int) < 32) (by omega), decide_eq_true (p := (i : Int) < ((b.length : Nat) : Int)) (by omega)]
      show (if _ then if _ then _ else _ else _) = _
      rw [if_pos (by omega), if_pos (by omega), Int.toNat_natCast, hashUp_step, w64_id (by omega) (by omega)]
    · refine Ev.done fun k => ?_
      show ref13_hash_h0 (k + 1) b ((b.length : Nat) : Int) (hashUp b 0) (hashUp b b.length) = _
      rw [ref13_hash_h0_q, decide_eq_true (p := ((b.length : Nat) : Int) < 32) (by omega), decide_eq_false (p := ((b.length : Nat) : Int) < ((b.length : Nat) : Int)) (by omega), hashUp_done (.inr (Nat.le_refl _))]
      rfl
  · refine Ev.rise (n := 32) (H := fun k i s => ref13_hash_h0 k b i (hashUp b 0) s) (hashUp b) (fun i hi ih => ?_) ?_ 32 0 (by omega)
    · refine Ev.step (fun k => ?_) ih
      show ref13_hash_h0 (k + 1) b (i : Int) (hashUp b 0) (hashUp b i) = ref13_hash_h0 k b ((i : Int) + 1) (hashUp b 0) (hashUp b (i + 1))
      rw [ref13_hash_h0_q, decide_eq_true (p := (i : Int) < 32) (by omega), decide_eq_true (p := (i : Int) < ((b.length : Nat) : Int)) (by omega)]
      show (if _ then if _ then _ else _ else _) = _
      rw [if_pos (by omega), if_pos (by omega), Int.toNat_natCast, hashUp_step, w64_id (by omega) (by omega)]
    · refine Ev.done fun k => ?_
      show ref13_hash_h0 (k + 1) b ((32 : Nat) : Int) (hashUp b 0) (hashUp b 32) = _
      rw [ref13_hash_h0_q, decide_eq_false (p := ((32 : Nat) : Int) < 32) (by omega), hashUp_done (.inl rfl)]
      rfl

end
end Go.Proofs.YtkjillpcmffgoaaDoor.M

namespace Go.Proofs.YtkjillpcmffgoaaDoor.M
open Go
noncomputable section
/-- the loop 0 of moneyer/moneyerref13.Open -/
def ref13_Open_h0 : Nat → (List UInt8) → Int → (List PV) → Option (Int × List PV)
  | 0, _, _, _ => none
  | k + 1, sig, k_, l => bif decide (k_ < (32 : Int)) then (if ((0 : Int) ≤ (w64 ((64 : Int) * k_))) ∧ (((w64 ((64 : Int) * k_)) ≤ (w64 ((w64 ((64 : Int) * k_)) + (32 : Int)))) ∧ ((w64 ((w64 ((64 : Int) * k_)) + (32 : Int))) ≤ (((List.length sig) : Nat) : Int))) then
        if (((List.length (l ++ ([(PV.arr EK.u8 (32 : Nat) (hash32 (List.take ((Int.toNat (w64 ((w64 ((64 : Int) * k_)) + (32 : Int)))) - (Int.toNat (w64 ((64 : Int) * k_)))) (List.drop (Int.toNat (w64 ((64 : Int) * k_))) sig))))] : List PV))) * (32 : Nat)) ≤ (70368744177664 : Nat)) ∧ ((List.length (l ++ ([(PV.arr EK.u8 (32 : Nat) (hash32 (List.take ((Int.toNat (w64 ((w64 ((64 : Int) * k_)) + (32 : Int)))) - (Int.toNat (w64 ((64 : Int) * k_)))) (List.drop (Int.toNat (w64 ((64 : Int) * k_))) sig))))] : List PV))) ≤ (70368744177664 : Nat)) then
          ref13_Open_h0 k sig (w64 (k_ + (1 : Int))) (l ++ ([(PV.arr EK.u8 (32 : Nat) (hash32 (List.take ((Int.toNat (w64 ((w64 ((64 : Int) * k_)) + (32 : Int)))) - (Int.toNat (w64 ((64 : Int) * k_)))) (List.drop (Int.toNat (w64 ((64 : Int) * k_))) sig))))] : List PV))
        else none
      else none)
      else (if (PV.flats l) = true then
        some ((0 : Int), l)
      else none)
theorem ref13_Open_h0_q (k : Nat) (sig : List UInt8) (k_ : Int) (l : List PV) : ref13_Open_h0 (k + 1) sig k_ l =
  (bif decide (k_ < (32 : Int)) then (if ((0 : Int) ≤ (w64 ((64 : Int) * k_))) ∧ (((w64 ((64 : Int) * k_)) ≤ (w64 ((w64 ((64 : Int) * k_)) + (32 : Int)))) ∧ ((w64 ((w64 ((64 : Int) * k_)) + (32 : Int))) ≤ (((List.length sig) : Nat) : Int))) then
        if (((List.length (l ++ ([(PV.arr EK.u8 (32 : Nat) (hash32 (List.take ((Int.toNat (w64 ((w64 ((64 : Int) * k_)) + (32 : Int)))) - (Int.toNat (w64 ((64 : Int) * k_)))) (List.drop (Int.toNat (w64 ((64 : Int) * k_))) sig))))] : List PV))) * (32 : Nat)) ≤ (70368744177664 : Nat)) ∧ ((List.length (l ++ ([(PV.arr EK.u8 (32 : Nat) (hash32 (List.take ((Int.toNat (w64 ((w64 ((64 : Int) * k_)) + (32 : Int)))) - (Int.toNat (w64 ((64 : Int) * k_)))) (List.drop (Int.toNat (w64 ((64 : Int) * k_))) sig))))] : List PV))) ≤ (70368744177664 : Nat)) then
          ref13_Open_h0 k sig (w64 (k_ + (1 : Int))) (l ++ ([(PV.arr EK.u8 (32 : Nat) (hash32 (List.take ((Int.toNat (w64 ((w64 ((64 : Int) * k_)) + (32 : Int)))) - (Int.toNat (w64 ((64 : Int) * k_)))) (List.drop (Int.toNat (w64 ((64 : Int) * k_))) sig))))] : List PV))
        else none
      else none)
      else (if (PV.flats l) = true then
        some ((0 : Int), l)
      else none)) := by kernel_rfl
/-- moneyer/moneyerref13.Open -/
def ref13_Open (k : Nat) (sig : List UInt8) : Option (Int × List PV) :=
  bif !(decide ((((List.length sig) : Nat) : Int) = (2048 : Int))) then (some ((5 : Int), ([] : List PV)))
    else (ref13_Open_h0 k sig (0 : Int) ([] : List PV))
theorem ref13_Open_q (k : Nat) (sig : List UInt8) : ref13_Open k sig = (bif !(decide ((((List.length sig) : Nat) : Int) = (2048 : Int))) then (some ((5 : Int), ([] : List PV)))
    else (ref13_Open_h0 k sig (0 : Int) ([] : List PV))) := by kernel_rfl
theorem ref13_Open_spec (sig : List UInt8) : Ev (fun k => ref13_Open k sig) (openE sig, openPV sig) := by
  refine Ev.same (fun k => ref13_Open_q k sig) ?_
  rw [openE_eq, openPV_eq]
  by_cases hl : sig.length = 2048
  · rw [if_pos hl, if_pos hl]
    have hb : (!(decide ((((List.length sig) : Nat) : Int) = (2048 : Int)))) = false := by rw [decide_eq_true (by omega)]; rfl
    refine Ev.same (g := fun k => ref13_Open_h0 k sig ((0 : Nat) : Int) (hArrs (openH sig 0))) (fun k => by rw [hb]; rfl) ?_
    refine Ev.rise (n := 32) (H := fun k i s => ref13_Open_h0 k sig i s) (fun i => hArrs (openH sig i)) (fun i hi ih => ?_) ?_ 32 0 (by omega)
    · refine Ev.step (fun k => ?_) ih
      have w1 : w64 ((64 : Int) * (i : Int)) = ((64 * i : Nat) : Int) := by rw [w64_id (by omega) (by omega)]; omega
      have w0 : w64 ((i : Int) + 1) = (i : Int) + 1 := by rw [w64_id (by omega) (by omega)]
      have w2 : w64 (((64 * i : Nat) : Int) + (32 : Int)) = ((64 * i + 32 : Nat) : Int) := by rw [w64_id (by omega) (by omega)]; omega
      have e1 : List.take (64 * i + 32 - 64 * i) (List.drop (64 * i) sig) = (partL sig i).take 32 := by rw [partL, Nat.add_sub_cancel_left, List.take_take]; rfl
      have hs : hArrs (openH sig (i + 1)) = hArrs (openH sig i) ++ [PV.arr .u8 32 (hash32 ((partL sig i).take 32))] := by rw [openH, hArrs_app]; rfl
      have hn : (hArrs (openH sig i) ++ [PV.arr .u8 32 (hash32 ((partL sig i).take 32))]).length = i + 1 := by rw [List.length_append, hArrs_len, openH_len]; rfl
      show ref13_Open_h0 (k + 1) sig (i : Int) (hArrs (openH sig i)) = ref13_Open_h0 k sig ((i : Int) + 1) (hArrs (openH sig (i + 1)))
      rw [ref13_Open_h0_q, bif_pos (by omega)]
      simp only [w0, w1, w2, Int.toNat_natCast, e1, hn]
      rw [if_pos ⟨by omega, by omega, by omega⟩, if_pos ⟨by omega, by omega⟩, hs]
    · refine Ev.done fun k => ?_
      show ref13_Open_h0 (k + 1) sig ((32 : Nat) : Int) (hArrs (openH sig 32)) = _
      rw [ref13_Open_h0_q, bif_neg (by omega), if_pos (hArrs_flats _)]
  · rw [if_neg hl, if_neg hl]
    refine Ev.done fun k => ?_
    rw [decide_eq_false (by omega)]; rfl

end
end Go.Proofs.YtkjillpcmffgoaaDoor.M

namespace Go.Proofs.YtkjillpcmffgoaaDoor.M
open Go
noncomputable section
/-- the loop 0 of moneyer/moneyerref13.bytes -/
def ref13_bytes_h0 : Nat → Int → (Vector UInt8 32) → (List UInt8) → Option (List UInt8)
  | 0, _, _, _ => none
  | k + 1, i, h_, b => bif decide (i < (32 : Int)) then (if ((0 : Int) ≤ i) ∧ (i < (32 : Int)) then
        if (((List.length (b ++ ([(List.getD (Vector.toList h_) (Int.toNat i) (0 : UInt8))] : List UInt8))) * (1 : Nat)) ≤ (70368744177664 : Nat)) ∧ ((List.length (b ++ ([(List.getD (Vector.toList h_) (Int.toNat i) (0 : UInt8))] : List UInt8))) ≤ (70368744177664 : Nat)) then
          ref13_bytes_h0 k (w64 (i + (1 : Int))) h_ (b ++ ([(List.getD (Vector.toList h_) (Int.toNat i) (0 : UInt8))] : List UInt8))
        else none
      else none)
      else (some b)
theorem ref13_bytes_h0_q (k : Nat) (i : Int) (h_ : Vector UInt8 32) (b : List UInt8) : ref13_bytes_h0 (k + 1) i h_ b =
  (bif decide (i < (32 : Int)) then (if ((0 : Int) ≤ i) ∧ (i < (32 : Int)) then
        if (((List.length (b ++ ([(List.getD (Vector.toList h_) (Int.toNat i) (0 : UInt8))] : List UInt8))) * (1 : Nat)) ≤ (70368744177664 : Nat)) ∧ ((List.length (b ++ ([(List.getD (Vector.toList h_) (Int.toNat i) (0 : UInt8))] : List UInt8))) ≤ (70368744177664 : Nat)) then
          ref13_bytes_h0 k (w64 (i + (1 : Int))) h_ (b ++ ([(List.getD (Vector.toList h_) (Int.toNat i) (0 : UInt8))] : List UInt8))
        else none
      else none)
      else (some b)) := by kernel_rfl
/-- moneyer/moneyerref13.bytes -/
def ref13_bytes (k : Nat) (h_0 : Vector UInt8 32) : Option (List UInt8) :=
  ref13_bytes_h0 k (0 : Int) h_0 ([] : List UInt8)
theorem ref13_bytes_q (k : Nat) (h_0 : Vector UInt8 32) : ref13_bytes k h_0 = (ref13_bytes_h0 k (0 : Int) h_0 ([] : List UInt8)) := by kernel_rfl
theorem ref13_bytes_spec (h : Vector UInt8 32) : Ev (fun k => ref13_bytes k h) h.toList := by
  refine Ev.same (fun k => ref13_bytes_q k h) ?_
  have hl : h.toList.length = 32 := Vector.length_toList
  refine Ev.rise (n := 32) (H := fun k i s => ref13_bytes_h0 k i h s) (fun i => h.toList.take i) (fun i hi ih => ?_) ?_ 32 0 (by omega)
  · refine Ev.step (fun k => ?_) ih
    show ref13_bytes_h0 (k + 1) (i : Int) h (h.toList.take i) = ref13_bytes_h0 k ((i : Int) + 1) h (h.toList.take (i + 1))
    have e : h.toList.take i ++ [h.toList.getD i 0] = h.toList.take (i + 1) := by
      rw [List.take_succ_eq_append_getElem (by omega)]
      simp [List.getD, hl, hi]
    have el : (h.toList.take (i + 1)).length = i + 1 := by rw [List.length_take, hl]; omega
    rw [ref13_bytes_h0_q, bif_pos (by omega), if_pos (by omega)]
    simp only [Int.toNat_natCast, e, el]
    rw [if_pos ⟨by omega, by omega⟩, w64_id (by omega) (by omega)]
  · refine Ev.done fun k => ?_
    show ref13_bytes_h0 (k + 1) ((32 : Nat) : Int) h (h.toList.take 32) = _
    rw [ref13_bytes_h0_q, bif_neg (by omega), List.take_of_length_le (by omega)]

end
end Go.Proofs.YtkjillpcmffgoaaDoor.M

namespace Go.Proofs.YtkjillpcmffgoaaDoor.M
open Go
noncomputable section
/-- the loop 0 of moneyer/moneyerref13.Bit -/
def ref13_Bit_h0 : Nat → UInt8 → UInt8 → UInt8 → Option (UInt8)
  | 0, _, _, _ => none
  | k + 1, k_, n, i => bif decide (i < (k_ % (8 : UInt8))) then (ref13_Bit_h0 k k_ (n / (2 : UInt8)) (i + (1 : UInt8)))
      else (some (n % (2 : UInt8)))
theorem ref13_Bit_h0_q (k : Nat) (k_ : UInt8) (n : UInt8) (i : UInt8) : ref13_Bit_h0 (k + 1) k_ n i =
  (bif decide (i < (k_ % (8 : UInt8))) then (ref13_Bit_h0 k k_ (n / (2 : UInt8)) (i + (1 : UInt8)))
      else (some (n % (2 : UInt8)))) := by kernel_rfl
/-- moneyer/moneyerref13.Bit -/
def ref13_Bit (k : Nat) (digest : Vector UInt8 32) (k_1 : UInt8) : Option (UInt8) :=
  if ((0 : Int) ≤ (((UInt8.toNat ((k_1 % (32 : UInt8)) / (8 : UInt8))) : Nat) : Int)) ∧ ((((UInt8.toNat ((k_1 % (32 : UInt8)) / (8 : UInt8))) : Nat) : Int) < (32 : Int)) then
    ref13_Bit_h0 k k_1 (List.getD (Vector.toList digest) (Int.toNat (((UInt8.toNat ((k_1 % (32 : UInt8)) / (8 : UInt8))) : Nat) : Int)) (0 : UInt8)) (0 : UInt8)
  else none
theorem ref13_Bit_q (k : Nat) (digest : Vector UInt8 32) (k_1 : UInt8) : ref13_Bit k digest k_1 = (if ((0 : Int) ≤ (((UInt8.toNat ((k_1 % (32 : UInt8)) / (8 : UInt8))) : Nat) : Int)) ∧ ((((UInt8.toNat ((k_1 % (32 : UInt8)) / (8 : UInt8))) : Nat) : Int) < (32 : Int)) then
    ref13_Bit_h0 k k_1 (List.getD (Vector.toList digest) (Int.toNat (((UInt8.toNat ((k_1 % (32 : UInt8)) / (8 : UInt8))) : Nat) : Int)) (0 : UInt8)) (0 : UInt8)
  else none) := by kernel_rfl
theorem u8_half (x : UInt8) (n : Nat) : shr_u8 x n / 2 = shr_u8 x (n + 1) := by
  unfold shr_u8
  apply UInt8.toNat_inj.1
  have h8 : x.toNat < 256 := UInt8.toNat_lt x
  have h2 : (2 : UInt8).toNat = 2 := rfl
  have a1 : x.toNat / 2 ^ min n 8 ≤ x.toNat := Nat.div_le_self _ _
  have a2 : x.toNat / 2 ^ min (n + 1) 8 ≤ x.toNat := Nat.div_le_self _ _
  rw [UInt8.toNat_div, UInt8.toNat_ofNat', UInt8.toNat_ofNat', h2, Nat.mod_eq_of_lt (by omega), Nat.mod_eq_of_lt (by omega)]
  by_cases h : n < 8
  · rw [show min n 8 = n by omega, show min (n + 1) 8 = n + 1 by omega, Nat.div_div_eq_div_mul, Nat.pow_succ]
  · rw [show min n 8 = 8 by omega, show min (n + 1) 8 = 8 by omega, Nat.div_eq_of_lt (a := x.toNat) (by omega)]
theorem u8_mod2 (x : UInt8) : x % 2 = x &&& 1 := by
  apply UInt8.toNat_inj.1
  rw [UInt8.toNat_mod, UInt8.toNat_and]
  exact (Nat.and_one_is_mod _).symm
theorem shr_u8_0 (x : UInt8) : shr_u8 x 0 = x := by
  unfold shr_u8
  apply UInt8.toNat_inj.1
  have h8 : x.toNat < 256 := UInt8.toNat_lt x
  rw [UInt8.toNat_ofNat']
  simp
theorem u8_mod32_8 (k : UInt8) : (k % 32) % 8 = k % 8 := by
  apply UInt8.toNat_inj.1
  rw [UInt8.toNat_mod, UInt8.toNat_mod, UInt8.toNat_mod]
  show k.toNat % 32 % 8 = k.toNat % 8
  omega
theorem ref13_Bit_spec (d : Vector UInt8 32) (k : UInt8) : Ev (fun n => ref13_Bit n d k) (bitV d k) := by
  refine Ev.same (fun n => ref13_Bit_q n d k) ?_
  have h1 : ((k % 32) / 8).toNat < 32 := by
    rw [UInt8.toNat_div, UInt8.toNat_mod]
    have : k.toNat % (32 : UInt8).toNat < 32 := Nat.mod_lt _ (by decide)
    have h8 : (8 : UInt8).toNat = 8 := rfl
    rw [h8]
    omega
  refine Ev.same (fun n => if_pos ⟨by omega, by omega⟩) ?_
  rw [bitV_eq, Int.toNat_natCast, u8_mod32_8]
  generalize d.toList.getD ((k % 32) / 8).toNat 0 = x
  have hk : (k % 8).toNat < 8 := by rw [UInt8.toNat_mod]; exact Nat.mod_lt _ (by decide)
  generalize hm : (k % 8).toNat = m at hk
  have gen : ∀ j i : Nat, i + j = m → Ev (fun n => ref13_Bit_h0 n k (shr_u8 x i) (UInt8.ofNat i)) (shr_u8 x m &&& 1) := by
    intro j
    induction j with
    | zero =>
      intro i hi
      have : i = m := by omega
      subst this
      refine Ev.done fun n => ?_
      rw [ref13_Bit_h0_q, bif_neg, u8_mod2]
      rw [UInt8.lt_iff_toNat_lt, hm, UInt8.toNat_ofNat']
      omega
    | succ j ih =>
      intro i hi
      refine Ev.step (fun n => ?_) (ih (i + 1) (by omega))
      rw [ref13_Bit_h0_q, bif_pos, u8_half]
      · congr 1
        apply UInt8.toNat_inj.1
        rw [UInt8.toNat_add, UInt8.toNat_ofNat', UInt8.toNat_ofNat']
        show (i % 2 ^ 8 + 1) % 2 ^ 8 = (i + 1) % 2 ^ 8
        omega
      · rw [UInt8.lt_iff_toNat_lt, hm, UInt8.toNat_ofNat']
        omega
  have := gen m 0 (by omega)
  rw [shr_u8_0] at this
  exact this

end
end Go.Proofs.YtkjillpcmffgoaaDoor.M

namespace Go.Proofs.YtkjillpcmffgoaaDoor.M
open Go
noncomputable section
/-- the loop 0 of moneyer/moneyerref13.Check -/
def ref13_Check_h0 : Nat → (List UInt8) → Int → (Vector UInt8 32) → (Vector UInt8 32) → (List UInt8) → Option (Int)
  | 0, _, _, _, _, _ => none
  | k + 1, sig, k_, key, digest, all => bif decide (k_ < (32 : Int)) then (if ((0 : Int) ≤ (w64 ((64 : Int) * k_))) ∧ (((w64 ((64 : Int) * k_)) ≤ (w64 ((w64 ((64 : Int) * k_)) + (32 : Int)))) ∧ ((w64 ((w64 ((64 : Int) * k_)) + (32 : Int))) ≤ (((List.length sig) : Nat) : Int))) then
        if (List.length (List.take ((Int.toNat (w64 ((w64 ((64 : Int) * k_)) + (32 : Int)))) - (Int.toNat (w64 ((64 : Int) * k_)))) (List.drop (Int.toNat (w64 ((64 : Int) * k_))) sig))) ≤ (1099511627776 : Nat) then
          if ((0 : Int) ≤ (w64 ((w64 ((64 : Int) * k_)) + (32 : Int)))) ∧ (((w64 ((w64 ((64 : Int) * k_)) + (32 : Int))) ≤ (w64 ((w64 ((64 : Int) * k_)) + (64 : Int)))) ∧ ((w64 ((w64 ((64 : Int) * k_)) + (64 : Int))) ≤ (((List.length sig) : Nat) : Int))) then
            if (List.length (List.take ((Int.toNat (w64 ((w64 ((64 : Int) * k_)) + (64 : Int)))) - (Int.toNat (w64 ((w64 ((64 : Int) * k_)) + (32 : Int))))) (List.drop (Int.toNat (w64 ((w64 ((64 : Int) * k_)) + (32 : Int)))) sig))) ≤ (70368744177664 : Nat) then
              bif decide ((bitV digest (UInt8.ofInt k_)) = (1 : UInt8)) then (if (((List.length (all ++ (List.take ((Int.toNat (w64 ((w64 ((64 : Int) * k_)) + (64 : Int)))) - (Int.toNat (w64 ((w64 ((64 : Int) * k_)) + (32 : Int))))) (List.drop (Int.toNat (w64 ((w64 ((64 : Int) * k_)) + (32 : Int)))) sig)))) * (1 : Nat)) ≤ (70368744177664 : Nat)) ∧ ((List.length (all ++ (List.take ((Int.toNat (w64 ((w64 ((64 : Int) * k_)) + (64 : Int)))) - (Int.toNat (w64 ((w64 ((64 : Int) * k_)) + (32 : Int))))) (List.drop (Int.toNat (w64 ((w64 ((64 : Int) * k_)) + (32 : Int)))) sig)))) ≤ (70368744177664 : Nat)) then
                  if (((List.length ((all ++ (List.take ((Int.toNat (w64 ((w64 ((64 : Int) * k_)) + (64 : Int)))) - (Int.toNat (w64 ((w64 ((64 : Int) * k_)) + (32 : Int))))) (List.drop (Int.toNat (w64 ((w64 ((64 : Int) * k_)) + (32 : Int)))) sig))) ++ (Vector.toList (shaSum (List.take ((Int.toNat (w64 ((w64 ((64 : Int) * k_)) + (32 : Int)))) - (Int.toNat (w64 ((64 : Int) * k_)))) (List.drop (Int.toNat (w64 ((64 : Int) * k_))) sig)))))) * (1 : Nat)) ≤ (70368744177664 : Nat)) ∧ ((List.length ((all ++ (List.take ((Int.toNat (w64 ((w64 ((64 : Int) * k_)) + (64 : Int)))) - (Int.toNat (w64 ((w64 ((64 : Int) * k_)) + (32 : Int))))) (List.drop (Int.toNat (w64 ((w64 ((64 : Int) * k_)) + (32 : Int)))) sig))) ++ (Vector.toList (shaSum (List.take ((Int.toNat (w64 ((w64 ((64 : Int) * k_)) + (32 : Int)))) - (Int.toNat (w64 ((64 : Int) * k_)))) (List.drop (Int.toNat (w64 ((64 : Int) * k_))) sig)))))) ≤ (70368744177664 : Nat)) then
                    ref13_Check_h0 k sig (w64 (k_ + (1 : Int))) key digest ((all ++ (List.take ((Int.toNat (w64 ((w64 ((64 : Int) * k_)) + (64 : Int)))) - (Int.toNat (w64 ((w64 ((64 : Int) * k_)) + (32 : Int))))) (List.drop (Int.toNat (w64 ((w64 ((64 : Int) * k_)) + (32 : Int)))) sig))) ++ (Vector.toList (shaSum (List.take ((Int.toNat (w64 ((w64 ((64 : Int) * k_)) + (32 : Int)))) - (Int.toNat (w64 ((64 : Int) * k_)))) (List.drop (Int.toNat (w64 ((64 : Int) * k_))) sig)))))
                  else none
                else none)
                else (if (((List.length (all ++ (Vector.toList (shaSum (List.take ((Int.toNat (w64 ((w64 ((64 : Int) * k_)) + (32 : Int)))) - (Int.toNat (w64 ((64 : Int) * k_)))) (List.drop (Int.toNat (w64 ((64 : Int) * k_))) sig)))))) * (1 : Nat)) ≤ (70368744177664 : Nat)) ∧ ((List.length (all ++ (Vector.toList (shaSum (List.take ((Int.toNat (w64 ((w64 ((64 : Int) * k_)) + (32 : Int)))) - (Int.toNat (w64 ((64 : Int) * k_)))) (List.drop (Int.toNat (w64 ((64 : Int) * k_))) sig)))))) ≤ (70368744177664 : Nat)) then
                  if (((List.length ((all ++ (Vector.toList (shaSum (List.take ((Int.toNat (w64 ((w64 ((64 : Int) * k_)) + (32 : Int)))) - (Int.toNat (w64 ((64 : Int) * k_)))) (List.drop (Int.toNat (w64 ((64 : Int) * k_))) sig))))) ++ (List.take ((Int.toNat (w64 ((w64 ((64 : Int) * k_)) + (64 : Int)))) - (Int.toNat (w64 ((w64 ((64 : Int) * k_)) + (32 : Int))))) (List.drop (Int.toNat (w64 ((w64 ((64 : Int) * k_)) + (32 : Int)))) sig)))) * (1 : Nat)) ≤ (70368744177664 : Nat)) ∧ ((List.length ((all ++ (Vector.toList (shaSum (List.take ((Int.toNat (w64 ((w64 ((64 : Int) * k_)) + (32 : Int)))) - (Int.toNat (w64 ((64 : Int) * k_)))) (List.drop (Int.toNat (w64 ((64 : Int) * k_))) sig))))) ++ (List.take ((Int.toNat (w64 ((w64 ((64 : Int) * k_)) + (64 : Int)))) - (Int.toNat (w64 ((w64 ((64 : Int) * k_)) + (32 : Int))))) (List.drop (Int.toNat (w64 ((w64 ((64 : Int) * k_)) + (32 : Int)))) sig)))) ≤ (70368744177664 : Nat)) then
                    ref13_Check_h0 k sig (w64 (k_ + (1 : Int))) key digest ((all ++ (Vector.toList (shaSum (List.take ((Int.toNat (w64 ((w64 ((64 : Int) * k_)) + (32 : Int)))) - (Int.toNat (w64 ((64 : Int) * k_)))) (List.drop (Int.toNat (w64 ((64 : Int) * k_))) sig))))) ++ (List.take ((Int.toNat (w64 ((w64 ((64 : Int) * k_)) + (64 : Int)))) - (Int.toNat (w64 ((w64 ((64 : Int) * k_)) + (32 : Int))))) (List.drop (Int.toNat (w64 ((w64 ((64 : Int) * k_)) + (32 : Int)))) sig)))
                  else none
                else none)
            else none
          else none
        else none
      else none)
      else (if (List.length all) ≤ (1099511627776 : Nat) then
        bif !(decide ((Vector.toList (shaSum all)) = (Vector.toList key))) then (some (5 : Int))
          else (some (0 : Int))
      else none)
theorem ref13_Check_h0_q (k : Nat) (sig : List UInt8) (k_ : Int) (key : Vector UInt8 32) (digest : Vector UInt8 32) (all : List UInt8) : ref13_Check_h0 (k + 1) sig k_ key digest all =
  (bif decide (k_ < (32 : Int)) then (if ((0 : Int) ≤ (w64 ((64 : Int) * k_))) ∧ (((w64 ((64 : Int) * k_)) ≤ (w64 ((w64 ((64 : Int) * k_)) + (32 : Int)))) ∧ ((w64 ((w64 ((64 : Int) * k_)) + (32 : Int))) ≤ (((List.length sig) : Nat) : Int))) then
        if (List.length (List.take ((Int.toNat (w64 ((w64 ((64 : Int) * k_)) + (32 : Int)))) - (Int.toNat (w64 ((64 : Int) * k_)))) (List.drop (Int.toNat (w64 ((64 : Int) * k_))) sig))) ≤ (1099511627776 : Nat) then
          if ((0 : Int) ≤ (w64 ((w64 ((64 : Int) * k_)) + (32 : Int)))) ∧ (((w64 ((w64 ((64 : Int) * k_)) + (32 : Int))) ≤ (w64 ((w64 ((64 : Int) * k_)) + (64 : Int)))) ∧ ((w64 ((w64 ((64 : Int) * k_)) + (64 : Int))) ≤ (((List.length sig) : Nat) : Int))) then
            if (List.length (List.take ((Int.toNat (w64 ((w64 ((64 : Int) * k_)) + (64 : Int)))) - (Int.toNat (w64 ((w64 ((64 : Int) * k_)) + (32 : Int))))) (List.drop (Int.toNat (w64 ((w64 ((64 : Int) * k_)) + (32 : Int)))) sig))) ≤ (70368744177664 : Nat) then
              bif decide ((bitV digest (UInt8.ofInt k_)) = (1 : UInt8)) then (if (((List.length (all ++ (List.take ((Int.toNat (w64 ((w64 ((64 : Int) * k_)) + (64 : Int)))) - (Int.toNat (w64 ((w64 ((64 : Int) * k_)) + (32 : Int))))) (List.drop (Int.toNat (w64 ((w64 ((64 : Int) * k_)) + (32 : Int)))) sig)))) * (1 : Nat)) ≤ (70368744177664 : Nat)) ∧ ((List.length (all ++ (List.take ((Int.toNat (w64 ((w64 ((64 : Int) * k_)) + (64 : Int)))) - (Int.toNat (w64 ((w64 ((64 : Int) * k_)) + (32 : Int))))) (List.drop (Int.toNat (w64 ((w64 ((64 : Int) * k_)) + (32 : Int)))) sig)))) ≤ (70368744177664 : Nat)) then
                  if (((List.length ((all ++ (List.take ((Int.toNat (w64 ((w64 ((64 : Int) * k_)) + (64 : Int)))) - (Int.toNat (w64 ((w64 ((64 : Int) * k_)) + (32 : Int))))) (List.drop (Int.toNat (w64 ((w64 ((64 : Int) * k_)) + (32 : Int)))) sig))) ++ (Vector.toList (shaSum (List.take ((Int.toNat (w64 ((w64 ((64 : Int) * k_)) + (32 : Int)))) - (Int.toNat (w64 ((64 : Int) * k_)))) (List.drop (Int.toNat (w64 ((64 : Int) * k_))) sig)))))) * (1 : Nat)) ≤ (70368744177664 : Nat)) ∧ ((List.length ((all ++ (List.take ((Int.toNat (w64 ((w64 ((64 : Int) * k_)) + (64 : Int)))) - (Int.toNat (w64 ((w64 ((64 : Int) * k_)) + (32 : Int))))) (List.drop (Int.toNat (w64 ((w64 ((64 : Int) * k_)) + (32 : Int)))) sig))) ++ (Vector.toList (shaSum (List.take ((Int.toNat (w64 ((w64 ((64 : Int) * k_)) + (32 : Int)))) - (Int.toNat (w64 ((64 : Int) * k_)))) (List.drop (Int.toNat (w64 ((64 : Int) * k_))) sig)))))) ≤ (70368744177664 : Nat)) then
                    ref13_Check_h0 k sig (w64 (k_ + (1 : Int))) key digest ((all ++ (List.take ((Int.toNat (w64 ((w64 ((64 : Int) * k_)) + (64 : Int)))) - (Int.toNat (w64 ((w64 ((64 : Int) * k_)) + (32 : Int))))) (List.drop (Int.toNat (w64 ((w64 ((64 : Int) * k_)) + (32 : Int)))) sig))) ++ (Vector.toList (shaSum (List.take ((Int.toNat (w64 ((w64 ((64 : Int) * k_)) + (32 : Int)))) - (Int.toNat (w64 ((64 : Int) * k_)))) (List.drop (Int.toNat (w64 ((64 : Int) * k_))) sig)))))
                  else none
                else none)
                else (if (((List.length (all ++ (Vector.toList (shaSum (List.take ((Int.toNat (w64 ((w64 ((64 : Int) * k_)) + (32 : Int)))) - (Int.toNat (w64 ((64 : Int) * k_)))) (List.drop (Int.toNat (w64 ((64 : Int) * k_))) sig)))))) * (1 : Nat)) ≤ (70368744177664 : Nat)) ∧ ((List.length (all ++ (Vector.toList (shaSum (List.take ((Int.toNat (w64 ((w64 ((64 : Int) * k_)) + (32 : Int)))) - (Int.toNat (w64 ((64 : Int) * k_)))) (List.drop (Int.toNat (w64 ((64 : Int) * k_))) sig)))))) ≤ (70368744177664 : Nat)) then
                  if (((List.length ((all ++ (Vector.toList (shaSum (List.take ((Int.toNat (w64 ((w64 ((64 : Int) * k_)) + (32 : Int)))) - (Int.toNat (w64 ((64 : Int) * k_)))) (List.drop (Int.toNat (w64 ((64 : Int) * k_))) sig))))) ++ (List.take ((Int.toNat (w64 ((w64 ((64 : Int) * k_)) + (64 : Int)))) - (Int.toNat (w64 ((w64 ((64 : Int) * k_)) + (32 : Int))))) (List.drop (Int.toNat (w64 ((w64 ((64 : Int) * k_)) + (32 : Int)))) sig)))) * (1 : Nat)) ≤ (70368744177664 : Nat)) ∧ ((List.length ((all ++ (Vector.toList (shaSum (List.take ((Int.toNat (w64 ((w64 ((64 : Int) * k_)) + (32 : Int)))) - (Int.toNat (w64 ((64 : Int) * k_)))) (List.drop (Int.toNat (w64 ((64 : Int) * k_))) sig))))) ++ (List.take ((Int.toNat (w64 ((w64 ((64 : Int) * k_)) + (64 : Int)))) - (Int.toNat (w64 ((w64 ((64 : Int) * k_)) + (32 : Int))))) (List.drop (Int.toNat (w64 ((w64 ((64 : Int) * k_)) + (32 : Int)))) sig)))) ≤ (70368744177664 : Nat)) then
                    ref13_Check_h0 k sig (w64 (k_ + (1 : Int))) key digest ((all ++ (Vector.toList (shaSum (List.take ((Int.toNat (w64 ((w64 ((64 : Int) * k_)) + (32 : Int)))) - (Int.toNat (w64 ((64 : Int) * k_)))) (List.drop (Int.toNat (w64 ((64 : Int) * k_))) sig))))) ++ (List.take ((Int.toNat (w64 ((w64 ((64 : Int) * k_)) + (64 : Int)))) - (Int.toNat (w64 ((w64 ((64 : Int) * k_)) + (32 : Int))))) (List.drop (Int.toNat (w64 ((w64 ((64 : Int) * k_)) + (32 : Int)))) sig)))
                  else none
                else none)
            else none
          else none
        else none
      else none)
      else (if (List.length all) ≤ (1099511627776 : Nat) then
        bif !(decide ((Vector.toList (shaSum all)) = (Vector.toList key))) then (some (5 : Int))
          else (some (0 : Int))
      else none)) := by kernel_rfl
/-- moneyer/moneyerref13.Check -/
def ref13_Check (k : Nat) (key : Vector UInt8 32) (digest : Vector UInt8 32) (sig : List UInt8) : Option (Int) :=
  bif !(decide ((((List.length sig) : Nat) : Int) = (2048 : Int))) then (some (5 : Int))
    else (ref13_Check_h0 k sig (0 : Int) key digest ([] : List UInt8))
theorem ref13_Check_q (k : Nat) (key : Vector UInt8 32) (digest : Vector UInt8 32) (sig : List UInt8) : ref13_Check k key digest sig = (bif !(decide ((((List.length sig) : Nat) : Int) = (2048 : Int))) then (some (5 : Int))
    else (ref13_Check_h0 k sig (0 : Int) key digest ([] : List UInt8))) := by kernel_rfl
theorem ref13_Check_spec (key d : Vector UInt8 32) (sig : List UInt8) : Ev (fun k => ref13_Check k key d sig) (checkV key d sig) := by
  refine Ev.same (fun k => ref13_Check_q k key d sig) ?_
  rw [checkV_eq]
  by_cases hl : sig.length = 2048
  · rw [if_pos hl]
    have hb : (!(decide ((((List.length sig) : Nat) : Int) = (2048 : Int)))) = false := by rw [decide_eq_true (by omega)]; rfl
    refine Ev.same (g := fun k => ref13_Check_h0 k sig ((0 : Nat) : Int) key d (chkB d sig 0)) (fun k => by rw [hb]; rfl) ?_
    refine Ev.rise (n := 32) (H := fun k i s => ref13_Check_h0 k sig i key d s) (chkB d sig) (fun i hi ih => ?_) ?_ 32 0 (by omega)
    · refine Ev.step (fun k => ?_) ih
      have w1 : w64 ((64 : Int) * (i : Int)) = ((64 * i : Nat) : Int) := by rw [w64_id (by omega) (by omega)]; omega
      have w0 : w64 ((i : Int) + 1) = (i : Int) + 1 := by rw [w64_id (by omega) (by omega)]
      have w2 : w64 (((64 * i : Nat) : Int) + 32) = ((64 * i + 32 : Nat) : Int) := by rw [w64_id (by omega) (by omega)]; omega
      have w3 : w64 (((64 * i : Nat) : Int) + 64) = ((64 * i + 64 : Nat) : Int) := by rw [w64_id (by omega) (by omega)]; omega
      have hp := partL_len hl hi
      have e1 : List.take (64 * i + 32 - 64 * i) (List.drop (64 * i) sig) = (partL sig i).take 32 := by rw [partL, Nat.add_sub_cancel_left, List.take_take]; rfl
      have e2 : List.take (64 * i + 64 - (64 * i + 32)) (List.drop (64 * i + 32) sig) = (partL sig i).drop 32 := by
        rw [partL, List.drop_take, List.drop_drop, show 64 * i + 64 - (64 * i + 32) = 64 - 32 by omega]
      have e4 : ∀ x, Vector.toList (shaSum x) = hL x := fun x => (hL_eq x).symm
      have hc := chkB_len (d := d) hl (k := i) (by omega)
      have hs : chkB d sig (i + 1) = chkB d sig i ++ pairB d sig i := rfl
      show ref13_Check_h0 (k + 1) sig (i : Int) key d (chkB d sig i) = ref13_Check_h0 k sig ((i : Int) + 1) key d (chkB d sig (i + 1))
      rw [ref13_Check_h0_q, bif_pos (by omega)]
      simp only [w0, w1, w2, w3, Int.toNat_natCast, e1, e2, e4, u8_ofInt]
      have lt : (List.take 32 (partL sig i)).length = 32 := by rw [List.length_take, hp]; rfl
      have ld : (List.drop 32 (partL sig i)).length = 32 := by rw [List.length_drop, hp]
      have q1 : (chkB d sig i ++ hL ((partL sig i).take 32)).length = 64 * i + 32 := by rw [List.length_append, hc, hL_len]
      have q2 : (chkB d sig i ++ (partL sig i).drop 32).length = 64 * i + 32 := by rw [List.length_append, hc, ld]
      have q3 : (chkB d sig i ++ hL ((partL sig i).take 32) ++ (partL sig i).drop 32).length = 64 * i + 64 := by rw [List.length_append, q1, ld]
      have q4 : (chkB d sig i ++ (partL sig i).drop 32 ++ hL ((partL sig i).take 32)).length = 64 * i + 64 := by rw [List.length_append, q2, hL_len]
      rw [lt, ld, q1, q2, q3, q4, hs]
      rw [if_pos ⟨by omega, by omega, by omega⟩, if_pos (by omega), if_pos ⟨by omega, by omega, by omega⟩, if_pos (by omega)]
      rcases bitV_01 d (UInt8.ofNat i) with hb | hb
      · have hpb : pairB d sig i = hL ((partL sig i).take 32) ++ (partL sig i).drop 32 := by rw [pairB, if_pos hb]
        rw [hb, decide_eq_false (by decide), cond_false, if_pos ⟨by omega, by omega⟩, if_pos ⟨by omega, by omega⟩, hpb, List.append_assoc]
      · have hpb : pairB d sig i = (partL sig i).drop 32 ++ hL ((partL sig i).take 32) := by rw [pairB, if_neg (by rw [hb]; decide)]
        rw [hb, decide_eq_true rfl, cond_true, if_pos ⟨by omega, by omega⟩, if_pos ⟨by omega, by omega⟩, hpb, List.append_assoc]
    · refine Ev.done fun k => ?_
      show ref13_Check_h0 (k + 1) sig ((32 : Nat) : Int) key d (chkB d sig 32) = _
      rw [ref13_Check_h0_q, bif_neg (by omega), if_pos (by rw [chkB_len hl (Nat.le_refl _)]; decide)]
      by_cases he : shaSum (chkB d sig 32) = key
      · rw [if_pos he, he, decide_eq_true rfl]; rfl
      · rw [if_neg he, decide_eq_false (fun h => he (Vector.toList_inj.1 h))]; rfl
  · rw [if_neg hl]
    refine Ev.done fun k => ?_
    rw [decide_eq_false (by omega)]; rfl

end
end Go.Proofs.YtkjillpcmffgoaaDoor.M

namespace Go.Proofs.YtkjillpcmffgoaaDoor.M
open Go
noncomputable section
set_option maxRecDepth 100000
set_option maxHeartbeats 0
noncomputable def ref13_hash_T : Tbl := []
noncomputable def ref13_hash_C : CfgW := mkC Tryd.prog theG ref13_hash_T 22 0 false
def ref13_hash_lv : Nat → List Nat := fun i => bif Nat.beq i 0 then [0, 2, 3, 4] else []
noncomputable abbrev ref13_hash_b : Code := Tryd.f59.body.getD .skip
noncomputable abbrev ref13_hash_r : List ResultVar := Tryd.f59.results.toList
def ref13_hash_hs : List Nat := []

def ref13_hash_enc (r : Vector UInt8 32) : CallOut := ⟨.pv (.arr .u8 32 r), [], true, []⟩
def ref13_hash_s0 (b : List UInt8) (i : Int) (t2 : Vector UInt8 32) (h_ : Vector UInt8 32) : St := ⟨[(0, .pv (.sl .u8 b)), (2, .p 60000 []), (3, .p 60001 []), (4, .pv (.sc .i i))], [(60000, .box (.pv (.arr .u8 32 t2))), (60001, .box (.pv (.arr .u8 32 h_)))]⟩
theorem ref13_hash_g0 (b : List UInt8) (i : Int) (t2 : Vector UInt8 32) (h_ : Vector UInt8 32) (Q : CallOut → Prop) : headRound ref13_hash_C ref13_hash_lv [true, true, false, true, false] ref13_hash_b (ref13_hash_s0 b i t2 h_) (fnK ref13_hash_C ref13_hash_r ref13_hash_hs Q) =
    (condP (eqb (decide (i < (32 : Int))) true) (condP (bif true then (decide (i < (((List.length b) : Nat) : Int))) else false) ((((0 : Int) ≤ i) ∧ (i < (((List.length b) : Nat) : Int))) ∧ ((((0 : Int) ≤ i) ∧ (i < (32 : Int))) ∧ (headP ref13_hash_C ref13_hash_lv [true, true, false, true, false] ref13_hash_b (ref13_hash_s0 b (w64 (i + (1 : Int))) t2 (Vector.setIfInBounds h_ (Int.toNat i) (List.getD b (Int.toNat i) (0 : UInt8)))) (fnK ref13_hash_C ref13_hash_r ref13_hash_hs Q)))) (Q (ref13_hash_enc h_))) (Q (ref13_hash_enc h_))) := by kernel_rfl
theorem ref13_hash_k0 {r : Vector UInt8 32} {Q : CallOut → Prop} (hQ : Q (ref13_hash_enc r)) : ∀ k : Nat, (∀ (b : List UInt8) (i : Int) (t2 : Vector UInt8 32) (h_ : Vector UInt8 32), ref13_hash_h0 k b i t2 h_ = some r → headP ref13_hash_C ref13_hash_lv [true, true, false, true, false] ref13_hash_b (ref13_hash_s0 b i t2 h_) (fnK ref13_hash_C ref13_hash_r ref13_hash_hs Q))
  | 0 => fun _ _ _ _ h => no_ok h
  | k + 1 => fun b i t2 h_ h => headP_step (Eq.mpr (ref13_hash_g0 b i t2 h_ Q) (have h := (ref13_hash_h0_q k b i t2 h_).symm.trans h; cond_ok h (fun h => cond_ok h (fun h => ite_ok h fun hc0 h => ite_ok h fun hc1 h => (ref13_hash_k0 hQ k) _ _ _ _ h) (fun h => ret_ok (Q := Q) (e := ref13_hash_enc) h hQ)) (fun h => ret_ok (Q := Q) (e := ref13_hash_enc) h hQ)))
theorem ref13_hash_e (b : List UInt8) (Q : CallOut → Prop) : evalFnP ref13_hash_C ref13_hash_lv ref13_hash_r ref13_hash_hs ref13_hash_b [.pv (.sl .u8 b)] [] Q =
    (headP ref13_hash_C ref13_hash_lv [true, true, false, true, false] ref13_hash_b (ref13_hash_s0 b (0 : Int) (Vector.replicate (32 : Nat) (0 : UInt8)) (Vector.replicate (32 : Nat) (0 : UInt8))) (fnK ref13_hash_C ref13_hash_r ref13_hash_hs Q)) := by kernel_rfl
theorem ref13_hash_w {k : Nat} (b : List UInt8) {r} {Q : CallOut → Prop} (h : ref13_hash k b = some r) (hQ : Q (ref13_hash_enc r)) : evalFnP ref13_hash_C ref13_hash_lv ref13_hash_r ref13_hash_hs ref13_hash_b [.pv (.sl .u8 b)] [] Q :=
  Eq.mpr (ref13_hash_e b Q) (have h := (ref13_hash_q k b).symm.trans h; (ref13_hash_k0 hQ _) _ _ _ _ h)
def ref13_hash_c : Ans
  | [.pv (.sl .u8 b)], [] => some (none, ref13_hash_enc (hash32 b))
  | _, _ => none
theorem ref13_hash_tok : TblOK Tryd.prog theG ref13_hash_T := .nil
theorem ref13_hash_ok : FnOK Tryd.prog theG 59 (unW ref13_hash_c) := by
  refine FnOK.ofC (T := ref13_hash_T) (nt := 22) (np := 0) (mv := []) (nf := false) (hs := ref13_hash_hs) (fn := Tryd.f59) (body := ref13_hash_b) ref13_hash_tok (by kernel_rfl) (by kernel_rfl) (by kernel_rfl) (by kernel_rfl) (c := ref13_hash_c) (lv := ref13_hash_lv) ?_
  intro xs mem p out h hp
  unfold ref13_hash_c at h
  split at h
  · cases h
    obtain ⟨k, hk⟩ := ref13_hash_spec _
    exact ref13_hash_w _ hk rfl
  · cases h
end
end Go.Proofs.YtkjillpcmffgoaaDoor.M

namespace Go.Proofs.YtkjillpcmffgoaaDoor.M
open Go
noncomputable section
set_option maxRecDepth 100000
set_option maxHeartbeats 0
noncomputable def ref13_Open_T : Tbl := [(59, [], ref13_hash_c)]
noncomputable def ref13_Open_C : CfgW := mkC Tryd.prog theG ref13_Open_T 25 0 false
def ref13_Open_lv : Nat → List Nat := fun i => bif Nat.beq i 0 then [0, 4, 5] else []
noncomputable abbrev ref13_Open_b : Code := Tryd.f45.body.getD .skip
noncomputable abbrev ref13_Open_r : List ResultVar := Tryd.f45.results.toList
def ref13_Open_hs : List Nat := []

def ref13_Open_enc (r : Int × List PV) : CallOut := ⟨.tup [.o 60000, .pv (.sc .i r.1)], [(60000, .row (.p 32 r.2) false)], true, []⟩
def ref13_Open_s0 (sig : List UInt8) (k_ : Int) (l : List PV) : St := ⟨[(0, .pv (.sl .u8 sig)), (4, .o 60000), (5, .pv (.sc .i k_))], [(60000, .row (.p 32 l) false)]⟩
theorem ref13_Open_g0 (sig : List UInt8) (k_ : Int) (l : List PV) (Q : CallOut → Prop) : headRound ref13_Open_C ref13_Open_lv [true, true, true, false, true, false] ref13_Open_b (ref13_Open_s0 sig k_ l) (fnK ref13_Open_C ref13_Open_r ref13_Open_hs Q) =
    (condP (decide (k_ < (32 : Int))) ((((0 : Int) ≤ (w64 ((64 : Int) * k_))) ∧ (((w64 ((64 : Int) * k_)) ≤ (w64 ((w64 ((64 : Int) * k_)) + (32 : Int)))) ∧ ((w64 ((w64 ((64 : Int) * k_)) + (32 : Int))) ≤ (((List.length sig) : Nat) : Int)))) ∧ (((((List.length (l ++ ([(PV.arr EK.u8 (32 : Nat) (hash32 (List.take ((Int.toNat (w64 ((w64 ((64 : Int) * k_)) + (32 : Int)))) - (Int.toNat (w64 ((64 : Int) * k_)))) (List.drop (Int.toNat (w64 ((64 : Int) * k_))) sig))))] : List PV))) * (32 : Nat)) ≤ (70368744177664 : Nat)) ∧ ((List.length (l ++ ([(PV.arr EK.u8 (32 : Nat) (hash32 (List.take ((Int.toNat (w64 ((w64 ((64 : Int) * k_)) + (32 : Int)))) - (Int.toNat (w64 ((64 : Int) * k_)))) (List.drop (Int.toNat (w64 ((64 : Int) * k_))) sig))))] : List PV))) ≤ (70368744177664 : Nat))) ∧ (headP ref13_Open_C ref13_Open_lv [true, true, true, false, true, false] ref13_Open_b (ref13_Open_s0 sig (w64 (k_ + (1 : Int))) (l ++ ([(PV.arr EK.u8 (32 : Nat) (hash32 (List.take ((Int.toNat (w64 ((w64 ((64 : Int) * k_)) + (32 : Int)))) - (Int.toNat (w64 ((64 : Int) * k_)))) (List.drop (Int.toNat (w64 ((64 : Int) * k_))) sig))))] : List PV))) (fnK ref13_Open_C ref13_Open_r ref13_Open_hs Q)))) (((PV.flats l) = true) ∧ (Q (ref13_Open_enc ((0 : Int), l))))) := by kernel_rfl
theorem ref13_Open_k0 {r : Int × List PV} {Q : CallOut → Prop} (hQ : Q (ref13_Open_enc r)) : ∀ k : Nat, (∀ (sig : List UInt8) (k_ : Int) (l : List PV), ref13_Open_h0 k sig k_ l = some r → headP ref13_Open_C ref13_Open_lv [true, true, true, false, true, false] ref13_Open_b (ref13_Open_s0 sig k_ l) (fnK ref13_Open_C ref13_Open_r ref13_Open_hs Q))
  | 0 => fun _ _ _ h => no_ok h
  | k + 1 => fun sig k_ l h => headP_step (Eq.mpr (ref13_Open_g0 sig k_ l Q) (have h := (ref13_Open_h0_q k sig k_ l).symm.trans h; cond_ok h (fun h => ite_ok h fun hc0 h => ite_ok h fun hc1 h => (ref13_Open_k0 hQ k) _ _ _ h) (fun h => ite_ok h fun hc0 h => ret_ok (Q := Q) (e := ref13_Open_enc) h hQ)))
theorem ref13_Open_e (sig : List UInt8) (Q : CallOut → Prop) : evalFnP ref13_Open_C ref13_Open_lv ref13_Open_r ref13_Open_hs ref13_Open_b [.pv (.sl .u8 sig)] [] Q =
    (condP (!(decide ((((List.length sig) : Nat) : Int) = (2048 : Int)))) (((PV.flats ([] : List PV)) = true) ∧ (Q (ref13_Open_enc ((5 : Int), ([] : List PV))))) (headP ref13_Open_C ref13_Open_lv [true, true, true, false, true, false] ref13_Open_b (ref13_Open_s0 sig (0 : Int) ([] : List PV)) (fnK ref13_Open_C ref13_Open_r ref13_Open_hs Q))) := by kernel_rfl
theorem ref13_Open_w {k : Nat} (sig : List UInt8) {r} {Q : CallOut → Prop} (h : ref13_Open k sig = some r) (hQ : Q (ref13_Open_enc r)) : evalFnP ref13_Open_C ref13_Open_lv ref13_Open_r ref13_Open_hs ref13_Open_b [.pv (.sl .u8 sig)] [] Q :=
  Eq.mpr (ref13_Open_e sig Q) (have h := (ref13_Open_q k sig).symm.trans h; cond_ok h (fun h => ⟨by decide +kernel, ret_ok (Q := Q) (e := ref13_Open_enc) h hQ⟩) (fun h => (ref13_Open_k0 hQ _) _ _ _ h))
def ref13_Open_c : Ans
  | [.pv (.sl .u8 sig)], [] => some (none, ref13_Open_enc ((openE sig, openPV sig)))
  | _, _ => none
theorem ref13_Open_tok : TblOK Tryd.prog theG ref13_Open_T := .cons ⟨by kernel_rfl, ref13_hash_ok⟩ (.nil)
theorem ref13_Open_ok : FnOK Tryd.prog theG 45 (unW ref13_Open_c) := by
  refine FnOK.ofC (T := ref13_Open_T) (nt := 25) (np := 0) (mv := []) (nf := false) (hs := ref13_Open_hs) (fn := Tryd.f45) (body := ref13_Open_b) ref13_Open_tok (by kernel_rfl) (by kernel_rfl) (by kernel_rfl) (by kernel_rfl) (c := ref13_Open_c) (lv := ref13_Open_lv) ?_
  intro xs mem p out h hp
  unfold ref13_Open_c at h
  split at h
  · cases h
    obtain ⟨k, hk⟩ := ref13_Open_spec _
    exact ref13_Open_w _ hk rfl
  · cases h
end
end Go.Proofs.YtkjillpcmffgoaaDoor.M

namespace Go.Proofs.YtkjillpcmffgoaaDoor.M
open Go
noncomputable section
set_option maxRecDepth 100000
set_option maxHeartbeats 0
noncomputable def ref13_bytes_T : Tbl := []
noncomputable def ref13_bytes_C : CfgW := mkC Tryd.prog theG ref13_bytes_T 16 0 false
def ref13_bytes_lv : Nat → List Nat := fun i => bif Nat.beq i 0 then [1, 3, 4] else []
noncomputable abbrev ref13_bytes_b : Code := Tryd.f56.body.getD .skip
noncomputable abbrev ref13_bytes_r : List ResultVar := Tryd.f56.results.toList
def ref13_bytes_hs : List Nat := []

def ref13_bytes_enc (r : List UInt8) : CallOut := ⟨.o 60000, [(60000, .row (.s .u8 r) false)], true, []⟩
def ref13_bytes_s0 (i : Int) (h_ : Vector UInt8 32) (b : List UInt8) : St := ⟨[(1, .p 60000 []), (3, .o 60001), (4, .pv (.sc .i i))], [(60000, .box (.pv (.arr .u8 32 h_))), (60001, .row (.s .u8 b) false)]⟩
theorem ref13_bytes_g0 (i : Int) (h_ : Vector UInt8 32) (b : List UInt8) (Q : CallOut → Prop) : headRound ref13_bytes_C ref13_bytes_lv [true, true, false, true, false] ref13_bytes_b (ref13_bytes_s0 i h_ b) (fnK ref13_bytes_C ref13_bytes_r ref13_bytes_hs Q) =
    (condP (decide (i < (32 : Int))) ((((0 : Int) ≤ i) ∧ (i < (32 : Int))) ∧ (((((List.length (b ++ ([(List.getD (Vector.toList h_) (Int.toNat i) (0 : UInt8))] : List UInt8))) * (1 : Nat)) ≤ (70368744177664 : Nat)) ∧ ((List.length (b ++ ([(List.getD (Vector.toList h_) (Int.toNat i) (0 : UInt8))] : List UInt8))) ≤ (70368744177664 : Nat))) ∧ (headP ref13_bytes_C ref13_bytes_lv [true, true, false, true, false] ref13_bytes_b (ref13_bytes_s0 (w64 (i + (1 : Int))) h_ (b ++ ([(List.getD (Vector.toList h_) (Int.toNat i) (0 : UInt8))] : List UInt8))) (fnK ref13_bytes_C ref13_bytes_r ref13_bytes_hs Q)))) (Q (ref13_bytes_enc b))) := by kernel_rfl
theorem ref13_bytes_k0 {r : List UInt8} {Q : CallOut → Prop} (hQ : Q (ref13_bytes_enc r)) : ∀ k : Nat, (∀ (i : Int) (h_ : Vector UInt8 32) (b : List UInt8), ref13_bytes_h0 k i h_ b = some r → headP ref13_bytes_C ref13_bytes_lv [true, true, false, true, false] ref13_bytes_b (ref13_bytes_s0 i h_ b) (fnK ref13_bytes_C ref13_bytes_r ref13_bytes_hs Q))
  | 0 => fun _ _ _ h => no_ok h
  | k + 1 => fun i h_ b h => headP_step (Eq.mpr (ref13_bytes_g0 i h_ b Q) (have h := (ref13_bytes_h0_q k i h_ b).symm.trans h; cond_ok h (fun h => ite_ok h fun hc0 h => ite_ok h fun hc1 h => (ref13_bytes_k0 hQ k) _ _ _ h) (fun h => ret_ok (Q := Q) (e := ref13_bytes_enc) h hQ)))
theorem ref13_bytes_e (h_0 : Vector UInt8 32) (Q : CallOut → Prop) : evalFnP ref13_bytes_C ref13_bytes_lv ref13_bytes_r ref13_bytes_hs ref13_bytes_b [.pv (.arr .u8 32 h_0)] [] Q =
    (headP ref13_bytes_C ref13_bytes_lv [true, true, false, true, false] ref13_bytes_b (ref13_bytes_s0 (0 : Int) h_0 ([] : List UInt8)) (fnK ref13_bytes_C ref13_bytes_r ref13_bytes_hs Q)) := by kernel_rfl
theorem ref13_bytes_w {k : Nat} (h_0 : Vector UInt8 32) {r} {Q : CallOut → Prop} (h : ref13_bytes k h_0 = some r) (hQ : Q (ref13_bytes_enc r)) : evalFnP ref13_bytes_C ref13_bytes_lv ref13_bytes_r ref13_bytes_hs ref13_bytes_b [.pv (.arr .u8 32 h_0)] [] Q :=
  Eq.mpr (ref13_bytes_e h_0 Q) (have h := (ref13_bytes_q k h_0).symm.trans h; (ref13_bytes_k0 hQ _) _ _ _ h)
def ref13_bytes_c : Ans
  | [.pv (.arr .u8 32 h_0)], [] => some (none, ref13_bytes_enc (h_0.toList))
  | _, _ => none
theorem ref13_bytes_tok : TblOK Tryd.prog theG ref13_bytes_T := .nil
theorem ref13_bytes_ok : FnOK Tryd.prog theG 56 (unW ref13_bytes_c) := by
  refine FnOK.ofC (T := ref13_bytes_T) (nt := 16) (np := 0) (mv := []) (nf := false) (hs := ref13_bytes_hs) (fn := Tryd.f56) (body := ref13_bytes_b) ref13_bytes_tok (by kernel_rfl) (by kernel_rfl) (by kernel_rfl) (by kernel_rfl) (c := ref13_bytes_c) (lv := ref13_bytes_lv) ?_
  intro xs mem p out h hp
  unfold ref13_bytes_c at h
  split at h
  · cases h
    obtain ⟨k, hk⟩ := ref13_bytes_spec _
    exact ref13_bytes_w _ hk rfl
  · cases h
end
end Go.Proofs.YtkjillpcmffgoaaDoor.M

namespace Go.Proofs.YtkjillpcmffgoaaDoor.M
open Go
noncomputable section
set_option maxRecDepth 100000
set_option maxHeartbeats 0
noncomputable def ref13_Bit_T : Tbl := []
noncomputable def ref13_Bit_C : CfgW := mkC Tryd.prog theG ref13_Bit_T 22 0 false
def ref13_Bit_lv : Nat → List Nat := fun i => bif Nat.beq i 0 then [1, 5, 6] else []
noncomputable abbrev ref13_Bit_b : Code := Tryd.f36.body.getD .skip
noncomputable abbrev ref13_Bit_r : List ResultVar := Tryd.f36.results.toList
def ref13_Bit_hs : List Nat := []

def ref13_Bit_enc (r : UInt8) : CallOut := ⟨.pv (.sc .u8 r), [], true, []⟩
def ref13_Bit_s0 (k_ : UInt8) (n : UInt8) (i : UInt8) : St := ⟨[(1, .pv (.sc .u8 k_)), (5, .pv (.sc .u8 n)), (6, .pv (.sc .u8 i))], []⟩
theorem ref13_Bit_g0 (k_ : UInt8) (n : UInt8) (i : UInt8) (Q : CallOut → Prop) : headRound ref13_Bit_C ref13_Bit_lv [true, true, false, true, false] ref13_Bit_b (ref13_Bit_s0 k_ n i) (fnK ref13_Bit_C ref13_Bit_r ref13_Bit_hs Q) =
    (((8 : UInt8) ≠ (0 : UInt8)) ∧ (condP (decide (i < (k_ % (8 : UInt8)))) (((2 : UInt8) ≠ (0 : UInt8)) ∧ (headP ref13_Bit_C ref13_Bit_lv [true, true, false, true, false] ref13_Bit_b (ref13_Bit_s0 k_ (n / (2 : UInt8)) (i + (1 : UInt8))) (fnK ref13_Bit_C ref13_Bit_r ref13_Bit_hs Q))) (((2 : UInt8) ≠ (0 : UInt8)) ∧ (Q (ref13_Bit_enc (n % (2 : UInt8))))))) := by kernel_rfl
theorem ref13_Bit_k0 {r : UInt8} {Q : CallOut → Prop} (hQ : Q (ref13_Bit_enc r)) : ∀ k : Nat, (∀ (k_ : UInt8) (n : UInt8) (i : UInt8), ref13_Bit_h0 k k_ n i = some r → headP ref13_Bit_C ref13_Bit_lv [true, true, false, true, false] ref13_Bit_b (ref13_Bit_s0 k_ n i) (fnK ref13_Bit_C ref13_Bit_r ref13_Bit_hs Q))
  | 0 => fun _ _ _ h => no_ok h
  | k + 1 => fun k_ n i h => headP_step (Eq.mpr (ref13_Bit_g0 k_ n i Q) (have h := (ref13_Bit_h0_q k k_ n i).symm.trans h; ⟨by decide +kernel, cond_ok h (fun h => ⟨by decide +kernel, (ref13_Bit_k0 hQ k) _ _ _ h⟩) (fun h => ⟨by decide +kernel, ret_ok (Q := Q) (e := ref13_Bit_enc) h hQ⟩)⟩))
theorem ref13_Bit_e (digest : Vector UInt8 32) (k_1 : UInt8) (Q : CallOut → Prop) : evalFnP ref13_Bit_C ref13_Bit_lv ref13_Bit_r ref13_Bit_hs ref13_Bit_b [.pv (.arr .u8 32 digest), .pv (.sc .u8 k_1)] [] Q =
    (((32 : UInt8) ≠ (0 : UInt8)) ∧ (((8 : UInt8) ≠ (0 : UInt8)) ∧ ((((0 : Int) ≤ (((UInt8.toNat ((k_1 % (32 : UInt8)) / (8 : UInt8))) : Nat) : Int)) ∧ ((((UInt8.toNat ((k_1 % (32 : UInt8)) / (8 : UInt8))) : Nat) : Int) < (32 : Int))) ∧ (headP ref13_Bit_C ref13_Bit_lv [true, true, false, true, false] ref13_Bit_b (ref13_Bit_s0 k_1 (List.getD (Vector.toList digest) (Int.toNat (((UInt8.toNat ((k_1 % (32 : UInt8)) / (8 : UInt8))) : Nat) : Int)) (0 : UInt8)) (0 : UInt8)) (fnK ref13_Bit_C ref13_Bit_r ref13_Bit_hs Q))))) := by kernel_rfl
theorem ref13_Bit_w {k : Nat} (digest : Vector UInt8 32) (k_1 : UInt8) {r} {Q : CallOut → Prop} (h : ref13_Bit k digest k_1 = some r) (hQ : Q (ref13_Bit_enc r)) : evalFnP ref13_Bit_C ref13_Bit_lv ref13_Bit_r ref13_Bit_hs ref13_Bit_b [.pv (.arr .u8 32 digest), .pv (.sc .u8 k_1)] [] Q :=
  Eq.mpr (ref13_Bit_e digest k_1 Q) (have h := (ref13_Bit_q k digest k_1).symm.trans h; ⟨by decide +kernel, ⟨by decide +kernel, ite_ok h fun hc0 h => (ref13_Bit_k0 hQ _) _ _ _ h⟩⟩)
def ref13_Bit_c : Ans
  | [.pv (.arr .u8 32 digest), .pv (.sc .u8 k_1)], [] => some (none, ref13_Bit_enc (bitV digest k_1))
  | _, _ => none
theorem ref13_Bit_tok : TblOK Tryd.prog theG ref13_Bit_T := .nil
theorem ref13_Bit_ok : FnOK Tryd.prog theG 36 (unW ref13_Bit_c) := by
  refine FnOK.ofC (T := ref13_Bit_T) (nt := 22) (np := 0) (mv := []) (nf := false) (hs := ref13_Bit_hs) (fn := Tryd.f36) (body := ref13_Bit_b) ref13_Bit_tok (by kernel_rfl) (by kernel_rfl) (by kernel_rfl) (by kernel_rfl) (c := ref13_Bit_c) (lv := ref13_Bit_lv) ?_
  intro xs mem p out h hp
  unfold ref13_Bit_c at h
  split at h
  · cases h
    obtain ⟨k, hk⟩ := ref13_Bit_spec _ _
    exact ref13_Bit_w _ _ hk rfl
  · cases h
end
end Go.Proofs.YtkjillpcmffgoaaDoor.M

namespace Go.Proofs.YtkjillpcmffgoaaDoor.M
open Go
noncomputable section
set_option maxRecDepth 100000
set_option maxHeartbeats 0
noncomputable def ref13_Check_T : Tbl := [(48, [], ref02_Sum_c), (56, [], ref13_bytes_c), (58, [], ref00_Copy_c), (36, [], ref13_Bit_c)]
noncomputable def ref13_Check_C : CfgW := mkC Tryd.prog theG ref13_Check_T 53 0 false
def ref13_Check_lv : Nat → List Nat := fun i => bif Nat.beq i 0 then [2, 3, 4, 7, 8] else []
noncomputable abbrev ref13_Check_b : Code := Tryd.f43.body.getD .skip
noncomputable abbrev ref13_Check_r : List ResultVar := Tryd.f43.results.toList
def ref13_Check_hs : List Nat := []

def ref13_Check_enc (r : Int) : CallOut := ⟨.pv (.sc .i r), [], true, []⟩
def ref13_Check_s0 (sig : List UInt8) (k_ : Int) (key : Vector UInt8 32) (digest : Vector UInt8 32) (all : List UInt8) : St := ⟨[(2, .pv (.sl .u8 sig)), (3, .p 60000 []), (4, .p 60001 []), (7, .o 60002), (8, .pv (.sc .i k_))], [(60000, .box (.pv (.arr .u8 32 key))), (60001, .box (.pv (.arr .u8 32 digest))), (60002, .row (.s .u8 all) false)]⟩
theorem ref13_Check_g0 (sig : List UInt8) (k_ : Int) (key : Vector UInt8 32) (digest : Vector UInt8 32) (all : List UInt8) (Q : CallOut → Prop) : headRound ref13_Check_C ref13_Check_lv [true, true, true, false, true, false] ref13_Check_b (ref13_Check_s0 sig k_ key digest all) (fnK ref13_Check_C ref13_Check_r ref13_Check_hs Q) =
    (condP (decide (k_ < (32 : Int))) ((((0 : Int) ≤ (w64 ((64 : Int) * k_))) ∧ (((w64 ((64 : Int) * k_)) ≤ (w64 ((w64 ((64 : Int) * k_)) + (32 : Int)))) ∧ ((w64 ((w64 ((64 : Int) * k_)) + (32 : Int))) ≤ (((List.length sig) : Nat) : Int)))) ∧ (((List.length (List.take ((Int.toNat (w64 ((w64 ((64 : Int) * k_)) + (32 : Int)))) - (Int.toNat (w64 ((64 : Int) * k_)))) (List.drop (Int.toNat (w64 ((64 : Int) * k_))) sig))) ≤ (1099511627776 : Nat)) ∧ ((((0 : Int) ≤ (w64 ((w64 ((64 : Int) * k_)) + (32 : Int)))) ∧ (((w64 ((w64 ((64 : Int) * k_)) + (32 : Int))) ≤ (w64 ((w64 ((64 : Int) * k_)) + (64 : Int)))) ∧ ((w64 ((w64 ((64 : Int) * k_)) + (64 : Int))) ≤ (((List.length sig) : Nat) : Int)))) ∧ (((List.length (List.take ((Int.toNat (w64 ((w64 ((64 : Int) * k_)) + (64 : Int)))) - (Int.toNat (w64 ((w64 ((64 : Int) * k_)) + (32 : Int))))) (List.drop (Int.toNat (w64 ((w64 ((64 : Int) * k_)) + (32 : Int)))) sig))) ≤ (70368744177664 : Nat)) ∧ (condP (decide ((bitV digest (UInt8.ofInt k_)) = (1 : UInt8))) (((((List.length (all ++ (List.take ((Int.toNat (w64 ((w64 ((64 : Int) * k_)) + (64 : Int)))) - (Int.toNat (w64 ((w64 ((64 : Int) * k_)) + (32 : Int))))) (List.drop (Int.toNat (w64 ((w64 ((64 : Int) * k_)) + (32 : Int)))) sig)))) * (1 : Nat)) ≤ (70368744177664 : Nat)) ∧ ((List.length (all ++ (List.take ((Int.toNat (w64 ((w64 ((64 : Int) * k_)) + (64 : Int)))) - (Int.toNat (w64 ((w64 ((64 : Int) * k_)) + (32 : Int))))) (List.drop (Int.toNat (w64 ((w64 ((64 : Int) * k_)) + (32 : Int)))) sig)))) ≤ (70368744177664 : Nat))) ∧ (((((List.length ((all ++ (List.take ((Int.toNat (w64 ((w64 ((64 : Int) * k_)) + (64 : Int)))) - (Int.toNat (w64 ((w64 ((64 : Int) * k_)) + (32 : Int))))) (List.drop (Int.toNat (w64 ((w64 ((64 : Int) * k_)) + (32 : Int)))) sig))) ++ (Vector.toList (shaSum (List.take ((Int.toNat (w64 ((w64 ((64 : Int) * k_)) + (32 : Int)))) - (Int.toNat (w64 ((64 : Int) * k_)))) (List.drop (Int.toNat (w64 ((64 : Int) * k_))) sig)))))) * (1 : Nat)) ≤ (70368744177664 : Nat)) ∧ ((List.length ((all ++ (List.take ((Int.toNat (w64 ((w64 ((64 : Int) * k_)) + (64 : Int)))) - (Int.toNat (w64 ((w64 ((64 : Int) * k_)) + (32 : Int))))) (List.drop (Int.toNat (w64 ((w64 ((64 : Int) * k_)) + (32 : Int)))) sig))) ++ (Vector.toList (shaSum (List.take ((Int.toNat (w64 ((w64 ((64 : Int) * k_)) + (32 : Int)))) - (Int.toNat (w64 ((64 : Int) * k_)))) (List.drop (Int.toNat (w64 ((64 : Int) * k_))) sig)))))) ≤ (70368744177664 : Nat))) ∧ (headP ref13_Check_C ref13_Check_lv [true, true, true, false, true, false] ref13_Check_b (ref13_Check_s0 sig (w64 (k_ + (1 : Int))) key digest ((all ++ (List.take ((Int.toNat (w64 ((w64 ((64 : Int) * k_)) + (64 : Int)))) - (Int.toNat (w64 ((w64 ((64 : Int) * k_)) + (32 : Int))))) (List.drop (Int.toNat (w64 ((w64 ((64 : Int) * k_)) + (32 : Int)))) sig))) ++ (Vector.toList (shaSum (List.take ((Int.toNat (w64 ((w64 ((64 : Int) * k_)) + (32 : Int)))) - (Int.toNat (w64 ((64 : Int) * k_)))) (List.drop (Int.toNat (w64 ((64 : Int) * k_))) sig)))))) (fnK ref13_Check_C ref13_Check_r ref13_Check_hs Q)))) (((((List.length (all ++ (Vector.toList (shaSum (List.take ((Int.toNat (w64 ((w64 ((64 : Int) * k_)) + (32 : Int)))) - (Int.toNat (w64 ((64 : Int) * k_)))) (List.drop (Int.toNat (w64 ((64 : Int) * k_))) sig)))))) * (1 : Nat)) ≤ (70368744177664 : Nat)) ∧ ((List.length (all ++ (Vector.toList (shaSum (List.take ((Int.toNat (w64 ((w64 ((64 : Int) * k_)) + (32 : Int)))) - (Int.toNat (w64 ((64 : Int) * k_)))) (List.drop (Int.toNat (w64 ((64 : Int) * k_))) sig)))))) ≤ (70368744177664 : Nat))) ∧ (((((List.length ((all ++ (Vector.toList (shaSum (List.take ((Int.toNat (w64 ((w64 ((64 : Int) * k_)) + (32 : Int)))) - (Int.toNat (w64 ((64 : Int) * k_)))) (List.drop (Int.toNat (w64 ((64 : Int) * k_))) sig))))) ++ (List.take ((Int.toNat (w64 ((w64 ((64 : Int) * k_)) + (64 : Int)))) - (Int.toNat (w64 ((w64 ((64 : Int) * k_)) + (32 : Int))))) (List.drop (Int.toNat (w64 ((w64 ((64 : Int) * k_)) + (32 : Int)))) sig)))) * (1 : Nat)) ≤ (70368744177664 : Nat)) ∧ ((List.length ((all ++ (Vector.toList (shaSum (List.take ((Int.toNat (w64 ((w64 ((64 : Int) * k_)) + (32 : Int)))) - (Int.toNat (w64 ((64 : Int) * k_)))) (List.drop (Int.toNat (w64 ((64 : Int) * k_))) sig))))) ++ (List.take ((Int.toNat (w64 ((w64 ((64 : Int) * k_)) + (64 : Int)))) - (Int.toNat (w64 ((w64 ((64 : Int) * k_)) + (32 : Int))))) (List.drop (Int.toNat (w64 ((w64 ((64 : Int) * k_)) + (32 : Int)))) sig)))) ≤ (70368744177664 : Nat))) ∧ (headP ref13_Check_C ref13_Check_lv [true, true, true, false, true, false] ref13_Check_b (ref13_Check_s0 sig (w64 (k_ + (1 : Int))) key digest ((all ++ (Vector.toList (shaSum (List.take ((Int.toNat (w64 ((w64 ((64 : Int) * k_)) + (32 : Int)))) - (Int.toNat (w64 ((64 : Int) * k_)))) (List.drop (Int.toNat (w64 ((64 : Int) * k_))) sig))))) ++ (List.take ((Int.toNat (w64 ((w64 ((64 : Int) * k_)) + (64 : Int)))) - (Int.toNat (w64 ((w64 ((64 : Int) * k_)) + (32 : Int))))) (List.drop (Int.toNat (w64 ((w64 ((64 : Int) * k_)) + (32 : Int)))) sig)))) (fnK ref13_Check_C ref13_Check_r ref13_Check_hs Q))))))))) (((List.length all) ≤ (1099511627776 : Nat)) ∧ (condP (!(decide ((Vector.toList (shaSum all)) = (Vector.toList key)))) (Q (ref13_Check_enc (5 : Int))) (Q (ref13_Check_enc (0 : Int)))))) := by kernel_rfl
theorem ref13_Check_k0 {r : Int} {Q : CallOut → Prop} (hQ : Q (ref13_Check_enc r)) : ∀ k : Nat, (∀ (sig : List UInt8) (k_ : Int) (key : Vector UInt8 32) (digest : Vector UInt8 32) (all : List UInt8), ref13_Check_h0 k sig k_ key digest all = some r → headP ref13_Check_C ref13_Check_lv [true, true, true, false, true, false] ref13_Check_b (ref13_Check_s0 sig k_ key digest all) (fnK ref13_Check_C ref13_Check_r ref13_Check_hs Q))
  | 0 => fun _ _ _ _ _ h => no_ok h
  | k + 1 => fun sig k_ key digest all h => headP_step (Eq.mpr (ref13_Check_g0 sig k_ key digest all Q) (have h := (ref13_Check_h0_q k sig k_ key digest all).symm.trans h; cond_ok h (fun h => ite_ok h fun hc0 h => ite_ok h fun hc1 h => ite_ok h fun hc2 h => ite_ok h fun hc3 h => cond_ok h (fun h => ite_ok h fun hc4 h => ite_ok h fun hc5 h => (ref13_Check_k0 hQ k) _ _ _ _ _ h) (fun h => ite_ok h fun hc4 h => ite_ok h fun hc5 h => (ref13_Check_k0 hQ k) _ _ _ _ _ h)) (fun h => ite_ok h fun hc0 h => cond_ok h (fun h => ret_ok (Q := Q) (e := ref13_Check_enc) h hQ) (fun h => ret_ok (Q := Q) (e := ref13_Check_enc) h hQ))))
theorem ref13_Check_e (key : Vector UInt8 32) (digest : Vector UInt8 32) (sig : List UInt8) (Q : CallOut → Prop) : evalFnP ref13_Check_C ref13_Check_lv ref13_Check_r ref13_Check_hs ref13_Check_b [.pv (.arr .u8 32 key), .pv (.arr .u8 32 digest), .pv (.sl .u8 sig)] [] Q =
    (condP (!(decide ((((List.length sig) : Nat) : Int) = (2048 : Int)))) (Q (ref13_Check_enc (5 : Int))) (headP ref13_Check_C ref13_Check_lv [true, true, true, false, true, false] ref13_Check_b (ref13_Check_s0 sig (0 : Int) key digest ([] : List UInt8)) (fnK ref13_Check_C ref13_Check_r ref13_Check_hs Q))) := by kernel_rfl
theorem ref13_Check_w {k : Nat} (key : Vector UInt8 32) (digest : Vector UInt8 32) (sig : List UInt8) {r} {Q : CallOut → Prop} (h : ref13_Check k key digest sig = some r) (hQ : Q (ref13_Check_enc r)) : evalFnP ref13_Check_C ref13_Check_lv ref13_Check_r ref13_Check_hs ref13_Check_b [.pv (.arr .u8 32 key), .pv (.arr .u8 32 digest), .pv (.sl .u8 sig)] [] Q :=
  Eq.mpr (ref13_Check_e key digest sig Q) (have h := (ref13_Check_q k key digest sig).symm.trans h; cond_ok h (fun h => ret_ok (Q := Q) (e := ref13_Check_enc) h hQ) (fun h => (ref13_Check_k0 hQ _) _ _ _ _ _ h))
def ref13_Check_c : Ans
  | [.pv (.arr .u8 32 key), .pv (.arr .u8 32 digest), .pv (.sl .u8 sig)], [] => some (none, ref13_Check_enc (checkV key digest sig))
  | _, _ => none
theorem ref13_Check_tok : TblOK Tryd.prog theG ref13_Check_T := .cons ⟨by kernel_rfl, ref02_Sum_ok⟩ (.cons ⟨by kernel_rfl, ref13_bytes_ok⟩ (.cons ⟨by kernel_rfl, ref00_Copy_ok⟩ (.cons ⟨by kernel_rfl, ref13_Bit_ok⟩ (.nil))))
theorem ref13_Check_ok : FnOK Tryd.prog theG 43 (unW ref13_Check_c) := by
  refine FnOK.ofC (T := ref13_Check_T) (nt := 53) (np := 0) (mv := []) (nf := false) (hs := ref13_Check_hs) (fn := Tryd.f43) (body := ref13_Check_b) ref13_Check_tok (by kernel_rfl) (by kernel_rfl) (by kernel_rfl) (by kernel_rfl) (c := ref13_Check_c) (lv := ref13_Check_lv) ?_
  intro xs mem p out h hp
  unfold ref13_Check_c at h
  split at h
  · cases h
    obtain ⟨k, hk⟩ := ref13_Check_spec _ _ _
    exact ref13_Check_w _ _ _ hk rfl
  · cases h
end
end Go.Proofs.YtkjillpcmffgoaaDoor.M
