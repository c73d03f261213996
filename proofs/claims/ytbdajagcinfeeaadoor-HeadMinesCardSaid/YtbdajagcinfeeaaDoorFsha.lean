/- Part of the proofs: what functions of the program do: plain functions, and the walks that show it. No condition. -/
import Derived.KernelRfl
import Derived.Test.YtbdajagcinfeeaaDoorProg
import Derived.Test.YtbdajagcinfeeaaDoorLe
import Derived.Test.YtbdajagcinfeeaaDoorSwords
import Derived.Test.YtbdajagcinfeeaaDoorSshaS
import Derived.Test.YtbdajagcinfeeaaDoorFbits
import Derived.Test.YtbdajagcinfeeaaDoorSshaK
set_option linter.unusedVariables false
set_option linter.unusedSimpArgs false
set_option autoImplicit false
namespace Go.Proofs.YtbdajagcinfeeaaDoor.M
open Go
noncomputable section
/-- moneyer/sha.Begin -/
def sha_Begin  : Vector UInt32 8 :=
  (Vector.setIfInBounds (Vector.setIfInBounds (Vector.setIfInBounds (Vector.setIfInBounds (Vector.setIfInBounds (Vector.setIfInBounds (Vector.setIfInBounds (Vector.setIfInBounds (Vector.replicate (8 : Nat) (0 : UInt32)) (0 : Nat) (1779033703 : UInt32)) (1 : Nat) (3144134277 : UInt32)) (2 : Nat) (1013904242 : UInt32)) (3 : Nat) (2773480762 : UInt32)) (4 : Nat) (1359893119 : UInt32)) (5 : Nat) (2600822924 : UInt32)) (6 : Nat) (528734635 : UInt32)) (7 : Nat) (1541459225 : UInt32))
theorem sha_Begin_q  : sha_Begin  = ((Vector.setIfInBounds (Vector.setIfInBounds (Vector.setIfInBounds (Vector.setIfInBounds (Vector.setIfInBounds (Vector.setIfInBounds (Vector.setIfInBounds (Vector.setIfInBounds (Vector.replicate (8 : Nat) (0 : UInt32)) (0 : Nat) (1779033703 : UInt32)) (1 : Nat) (3144134277 : UInt32)) (2 : Nat) (1013904242 : UInt32)) (3 : Nat) (2773480762 : UInt32)) (4 : Nat) (1359893119 : UInt32)) (5 : Nat) (2600822924 : UInt32)) (6 : Nat) (528734635 : UInt32)) (7 : Nat) (1541459225 : UInt32))) := by kernel_rfl

end
end Go.Proofs.YtbdajagcinfeeaaDoor.M

namespace Go.Proofs.YtbdajagcinfeeaaDoor.M
open Go
noncomputable section
/-- the loop 0 of moneyer/sha.high -/
def sha_high_h0 : Nat → UInt64 → Int → Int → Int → (List UInt8) → Option (List UInt8)
  | 0, _, _, _, _, _ => none
  | k + 1, n, many, t10, t11, b => bif decide (t11 < t10) then (if (0 : Int) ≤ (w64 ((8 : Int) * t11)) then
        if ((0 : Int) ≤ (w64 ((w64 (many - (1 : Int))) - t11))) ∧ ((w64 ((w64 (many - (1 : Int))) - t11)) < (((List.length b) : Nat) : Int)) then
          sha_high_h0 k n many t10 (w64 (t11 + (1 : Int))) (List.set b (Int.toNat (w64 ((w64 (many - (1 : Int))) - t11))) (UInt64.toUInt8 (shr_u64 n (Int.toNat (w64 ((8 : Int) * t11))))))
        else none
      else none)
      else (some b)
theorem sha_high_h0_q (k : Nat) (n : UInt64) (many : Int) (t10 : Int) (t11 : Int) (b : List UInt8) : sha_high_h0 (k + 1) n many t10 t11 b =
  (bif decide (t11 < t10) then (if (0 : Int) ≤ (w64 ((8 : Int) * t11)) then
        if ((0 : Int) ≤ (w64 ((w64 (many - (1 : Int))) - t11))) ∧ ((w64 ((w64 (many - (1 : Int))) - t11)) < (((List.length b) : Nat) : Int)) then
          sha_high_h0 k n many t10 (w64 (t11 + (1 : Int))) (List.set b (Int.toNat (w64 ((w64 (many - (1 : Int))) - t11))) (UInt64.toUInt8 (shr_u64 n (Int.toNat (w64 ((8 : Int) * t11))))))
        else none
      else none)
      else (some b)) := by kernel_rfl
/-- moneyer/sha.high -/
def sha_high (k : Nat) (n : UInt64) (many : Int) : Option (List UInt8) :=
  if ((0 : Int) ≤ many) ∧ ((many ≤ many) ∧ (((many * (((1 : Nat) : Nat) : Int)) ≤ (((70368744177664 : Nat) : Nat) : Int)) ∧ (many ≤ ((2 : Int) ^ (62 : Nat))))) then
    sha_high_h0 k n many (((List.length (List.replicate (Int.toNat many) (0 : UInt8))) : Nat) : Int) (0 : Int) (List.replicate (Int.toNat many) (0 : UInt8))
  else none
theorem sha_high_q (k : Nat) (n : UInt64) (many : Int) : sha_high k n many = (if ((0 : Int) ≤ many) ∧ ((many ≤ many) ∧ (((many * (((1 : Nat) : Nat) : Int)) ≤ (((70368744177664 : Nat) : Nat) : Int)) ∧ (many ≤ ((2 : Int) ^ (62 : Nat))))) then
    sha_high_h0 k n many (((List.length (List.replicate (Int.toNat many) (0 : UInt8))) : Nat) : Int) (0 : Int) (List.replicate (Int.toNat many) (0 : UInt8))
  else none) := by kernel_rfl
theorem sha_high_spec (n : UInt64) (many : Int) (h : 0 ≤ many ∧ many ≤ 64) : ∃ k, sha_high k n many = some (shaHigh n many.toNat) := by
  obtain ⟨m, rfl⟩ := Int.eq_ofNat_of_zero_le h.1
  have hm : m ≤ 64 := by omega
  show Ev (fun k => sha_high k n (m : Int)) _
  refine Ev.same (g := fun k => sha_high_h0 k n m m 0 (List.replicate m 0)) (fun k => ?_) ?_
  · rw [sha_high_q, if_pos (by simp; omega)]
    simp
  · have hl : ∀ i (l : List UInt8), (iterUp (fun i l => List.set l (m - 1 - i) (shr_u64 n (8 * i)).toUInt8) 0 i l).length = l.length := by
      intro i
      induction i with
      | zero => intro l; rfl
      | succ i ih => intro l; rw [iterUp_succ, List.length_set, ih]
    refine Ev.up (H := fun k i (b : {l : List UInt8 // l.length = m}) => sha_high_h0 k n m m i b.1) (lo := 0) (n := m) (step := fun i b => ⟨List.set b.1 (m - 1 - i) (shr_u64 n (8 * i)).toUInt8, by rw [List.length_set]; exact b.2⟩) ?_ m 0 ⟨List.replicate m 0, by simp⟩ (Nat.le_refl 0) (by omega) ?_
    · intro i b _ hi e
      refine Ev.step (fun k => ?_) e
      have a1 : w64 (8 * (i : Int)) = ((8 * i : Nat) : Int) := by rw [w64_id (by omega) (by omega)]; omega
      have a2 : w64 ((m : Int) - 1) = ((m - 1 : Nat) : Int) := by rw [w64_id (by omega) (by omega)]; omega
      have a3 : w64 (((m - 1 : Nat) : Int) - (i : Int)) = ((m - 1 - i : Nat) : Int) := by rw [w64_id (by omega) (by omega)]; omega
      have hb := b.2
      rw [sha_high_h0_q, bif_pos (by omega), a1, a2, a3, if_pos (by omega), if_pos (by omega), w64_id (by omega) (by omega)]
      simp only [Int.toNat_natCast]
    · refine Ev.done fun k => ?_
      rw [sha_high_h0_q, bif_neg (by omega)]
      refine congrArg some ?_
      have gen : ∀ i, i ≤ m → ∀ j, j < m → (iterUp (σ := {l : List UInt8 // l.length = m}) (fun i b => ⟨List.set b.1 (m - 1 - i) (shr_u64 n (8 * i)).toUInt8, by rw [List.length_set]; exact b.2⟩) 0 i ⟨List.replicate m 0, by simp⟩).1.getD j 0 = if m - 1 - j < i then (shr_u64 n (8 * (m - 1 - j))).toUInt8 else 0 := by
        intro i
        induction i with
        | zero => intro _ j _; simp only [iterUp]; rw [gd_rep]; simp
        | succ i ih =>
          intro hi j hj
          rw [iterUp_succ, Nat.zero_add]
          simp only
          rw [getD_set, ih (by omega) j hj]
          have hlen := (iterUp (σ := {l : List UInt8 // l.length = m}) (fun i b => ⟨List.set b.1 (m - 1 - i) (shr_u64 n (8 * i)).toUInt8, by rw [List.length_set]; exact b.2⟩) 0 i ⟨List.replicate m 0, by simp⟩).2
          rw [hlen]
          by_cases h1 : m - 1 - i = j
          · rw [if_pos ⟨h1, by omega⟩, if_pos (by omega), show m - 1 - j = i by omega]
          · rw [if_neg (by omega)]
            by_cases h2 : m - 1 - j < i
            · rw [if_pos h2, if_pos (by omega)]
            · rw [if_neg h2, if_neg (by omega)]
      have hlen := (iterUp (σ := {l : List UInt8 // l.length = m}) (fun i b => ⟨List.set b.1 (m - 1 - i) (shr_u64 n (8 * i)).toUInt8, by rw [List.length_set]; exact b.2⟩) 0 m ⟨List.replicate m 0, by simp⟩).2
      refine gd_ext 0 (by rw [hlen, shaHigh_len, Int.toNat_natCast]) fun j hj => ?_
      rw [hlen] at hj
      rw [gen m (Nat.le_refl m) j hj, if_pos (by omega)]
      simp [shaHigh, List.getD, hj]

end
end Go.Proofs.YtbdajagcinfeeaaDoor.M

namespace Go.Proofs.YtbdajagcinfeeaaDoor.M
open Go
noncomputable section
/-- moneyer/sha.Padded -/
def sha_Padded (b : List UInt8) : Option (List UInt8) :=
  if ((0 : Int) ≤ (0 : Int)) ∧ (((0 : Int) ≤ (w64 ((w64 ((w64 ((((List.length b) : Nat) : Int) + (1 : Int))) + (Int.tmod (w64 ((w64 ((56 : Int) - (Int.tmod (w64 ((((List.length b) : Nat) : Int) + (1 : Int))) (64 : Int)))) + (64 : Int))) (64 : Int)))) + (8 : Int)))) ∧ ((((w64 ((w64 ((w64 ((((List.length b) : Nat) : Int) + (1 : Int))) + (Int.tmod (w64 ((w64 ((56 : Int) - (Int.tmod (w64 ((((List.length b) : Nat) : Int) + (1 : Int))) (64 : Int)))) + (64 : Int))) (64 : Int)))) + (8 : Int))) * (((1 : Nat) : Nat) : Int)) ≤ (((70368744177664 : Nat) : Nat) : Int)) ∧ ((w64 ((w64 ((w64 ((((List.length b) : Nat) : Int) + (1 : Int))) + (Int.tmod (w64 ((w64 ((56 : Int) - (Int.tmod (w64 ((((List.length b) : Nat) : Int) + (1 : Int))) (64 : Int)))) + (64 : Int))) (64 : Int)))) + (8 : Int))) ≤ ((2 : Int) ^ (62 : Nat))))) then
    if (((List.length ((List.replicate (0 : Nat) (0 : UInt8)) ++ b)) * (1 : Nat)) ≤ (70368744177664 : Nat)) ∧ ((List.length ((List.replicate (0 : Nat) (0 : UInt8)) ++ b)) ≤ (70368744177664 : Nat)) then
      if (((List.length (((List.replicate (0 : Nat) (0 : UInt8)) ++ b) ++ ([(128 : UInt8)] : List UInt8))) * (1 : Nat)) ≤ (70368744177664 : Nat)) ∧ ((List.length (((List.replicate (0 : Nat) (0 : UInt8)) ++ b) ++ ([(128 : UInt8)] : List UInt8))) ≤ (70368744177664 : Nat)) then
        if (((0 : Int) ≤ (Int.tmod (w64 ((w64 ((56 : Int) - (Int.tmod (w64 ((((List.length b) : Nat) : Int) + (1 : Int))) (64 : Int)))) + (64 : Int))) (64 : Int))) ∧ ((Int.tmod (w64 ((w64 ((56 : Int) - (Int.tmod (w64 ((((List.length b) : Nat) : Int) + (1 : Int))) (64 : Int)))) + (64 : Int))) (64 : Int)) ≤ ((2 : Int) ^ (62 : Nat)))) ∧ ((((List.length ((((List.replicate (0 : Nat) (0 : UInt8)) ++ b) ++ ([(128 : UInt8)] : List UInt8)) ++ (List.replicate (Int.toNat (Int.tmod (w64 ((w64 ((56 : Int) - (Int.tmod (w64 ((((List.length b) : Nat) : Int) + (1 : Int))) (64 : Int)))) + (64 : Int))) (64 : Int))) (0 : UInt8)))) * (1 : Nat)) ≤ (70368744177664 : Nat)) ∧ ((List.length ((((List.replicate (0 : Nat) (0 : UInt8)) ++ b) ++ ([(128 : UInt8)] : List UInt8)) ++ (List.replicate (Int.toNat (Int.tmod (w64 ((w64 ((56 : Int) - (Int.tmod (w64 ((((List.length b) : Nat) : Int) + (1 : Int))) (64 : Int)))) + (64 : Int))) (64 : Int))) (0 : UInt8)))) ≤ (70368744177664 : Nat))) then
          if (((List.length (((((List.replicate (0 : Nat) (0 : UInt8)) ++ b) ++ ([(128 : UInt8)] : List UInt8)) ++ (List.replicate (Int.toNat (Int.tmod (w64 ((w64 ((56 : Int) - (Int.tmod (w64 ((((List.length b) : Nat) : Int) + (1 : Int))) (64 : Int)))) + (64 : Int))) (64 : Int))) (0 : UInt8))) ++ (shaHigh (shl_u64 (UInt64.ofInt (((List.length b) : Nat) : Int)) (3 : Nat)) (8 : Nat)))) * (1 : Nat)) ≤ (70368744177664 : Nat)) ∧ ((List.length (((((List.replicate (0 : Nat) (0 : UInt8)) ++ b) ++ ([(128 : UInt8)] : List UInt8)) ++ (List.replicate (Int.toNat (Int.tmod (w64 ((w64 ((56 : Int) - (Int.tmod (w64 ((((List.length b) : Nat) : Int) + (1 : Int))) (64 : Int)))) + (64 : Int))) (64 : Int))) (0 : UInt8))) ++ (shaHigh (shl_u64 (UInt64.ofInt (((List.length b) : Nat) : Int)) (3 : Nat)) (8 : Nat)))) ≤ (70368744177664 : Nat)) then
            some (((((List.replicate (0 : Nat) (0 : UInt8)) ++ b) ++ ([(128 : UInt8)] : List UInt8)) ++ (List.replicate (Int.toNat (Int.tmod (w64 ((w64 ((56 : Int) - (Int.tmod (w64 ((((List.length b) : Nat) : Int) + (1 : Int))) (64 : Int)))) + (64 : Int))) (64 : Int))) (0 : UInt8))) ++ (shaHigh (shl_u64 (UInt64.ofInt (((List.length b) : Nat) : Int)) (3 : Nat)) (8 : Nat)))
          else none
        else none
      else none
    else none
  else none
theorem sha_Padded_q (b : List UInt8) : sha_Padded b = (if ((0 : Int) ≤ (0 : Int)) ∧ (((0 : Int) ≤ (w64 ((w64 ((w64 ((((List.length b) : Nat) : Int) + (1 : Int))) + (Int.tmod (w64 ((w64 ((56 : Int) - (Int.tmod (w64 ((((List.length b) : Nat) : Int) + (1 : Int))) (64 : Int)))) + (64 : Int))) (64 : Int)))) + (8 : Int)))) ∧ ((((w64 ((w64 ((w64 ((((List.length b) : Nat) : Int) + (1 : Int))) + (Int.tmod (w64 ((w64 ((56 : Int) - (Int.tmod (w64 ((((List.length b) : Nat) : Int) + (1 : Int))) (64 : Int)))) + (64 : Int))) (64 : Int)))) + (8 : Int))) * (((1 : Nat) : Nat) : Int)) ≤ (((70368744177664 : Nat) : Nat) : Int)) ∧ ((w64 ((w64 ((w64 ((((List.length b) : Nat) : Int) + (1 : Int))) + (Int.tmod (w64 ((w64 ((56 : Int) - (Int.tmod (w64 ((((List.length b) : Nat) : Int) + (1 : Int))) (64 : Int)))) + (64 : Int))) (64 : Int)))) + (8 : Int))) ≤ ((2 : Int) ^ (62 : Nat))))) then
    if (((List.length ((List.replicate (0 : Nat) (0 : UInt8)) ++ b)) * (1 : Nat)) ≤ (70368744177664 : Nat)) ∧ ((List.length ((List.replicate (0 : Nat) (0 : UInt8)) ++ b)) ≤ (70368744177664 : Nat)) then
      if (((List.length (((List.replicate (0 : Nat) (0 : UInt8)) ++ b) ++ ([(128 : UInt8)] : List UInt8))) * (1 : Nat)) ≤ (70368744177664 : Nat)) ∧ ((List.length (((List.replicate (0 : Nat) (0 : UInt8)) ++ b) ++ ([(128 : UInt8)] : List UInt8))) ≤ (70368744177664 : Nat)) then
        if (((0 : Int) ≤ (Int.tmod (w64 ((w64 ((56 : Int) - (Int.tmod (w64 ((((List.length b) : Nat) : Int) + (1 : Int))) (64 : Int)))) + (64 : Int))) (64 : Int))) ∧ ((Int.tmod (w64 ((w64 ((56 : Int) - (Int.tmod (w64 ((((List.length b) : Nat) : Int) + (1 : Int))) (64 : Int)))) + (64 : Int))) (64 : Int)) ≤ ((2 : Int) ^ (62 : Nat)))) ∧ ((((List.length ((((List.replicate (0 : Nat) (0 : UInt8)) ++ b) ++ ([(128 : UInt8)] : List UInt8)) ++ (List.replicate (Int.toNat (Int.tmod (w64 ((w64 ((56 : Int) - (Int.tmod (w64 ((((List.length b) : Nat) : Int) + (1 : Int))) (64 : Int)))) + (64 : Int))) (64 : Int))) (0 : UInt8)))) * (1 : Nat)) ≤ (70368744177664 : Nat)) ∧ ((List.length ((((List.replicate (0 : Nat) (0 : UInt8)) ++ b) ++ ([(128 : UInt8)] : List UInt8)) ++ (List.replicate (Int.toNat (Int.tmod (w64 ((w64 ((56 : Int) - (Int.tmod (w64 ((((List.length b) : Nat) : Int) + (1 : Int))) (64 : Int)))) + (64 : Int))) (64 : Int))) (0 : UInt8)))) ≤ (70368744177664 : Nat))) then
          if (((List.length (((((List.replicate (0 : Nat) (0 : UInt8)) ++ b) ++ ([(128 : UInt8)] : List UInt8)) ++ (List.replicate (Int.toNat (Int.tmod (w64 ((w64 ((56 : Int) - (Int.tmod (w64 ((((List.length b) : Nat) : Int) + (1 : Int))) (64 : Int)))) + (64 : Int))) (64 : Int))) (0 : UInt8))) ++ (shaHigh (shl_u64 (UInt64.ofInt (((List.length b) : Nat) : Int)) (3 : Nat)) (8 : Nat)))) * (1 : Nat)) ≤ (70368744177664 : Nat)) ∧ ((List.length (((((List.replicate (0 : Nat) (0 : UInt8)) ++ b) ++ ([(128 : UInt8)] : List UInt8)) ++ (List.replicate (Int.toNat (Int.tmod (w64 ((w64 ((56 : Int) - (Int.tmod (w64 ((((List.length b) : Nat) : Int) + (1 : Int))) (64 : Int)))) + (64 : Int))) (64 : Int))) (0 : UInt8))) ++ (shaHigh (shl_u64 (UInt64.ofInt (((List.length b) : Nat) : Int)) (3 : Nat)) (8 : Nat)))) ≤ (70368744177664 : Nat)) then
            some (((((List.replicate (0 : Nat) (0 : UInt8)) ++ b) ++ ([(128 : UInt8)] : List UInt8)) ++ (List.replicate (Int.toNat (Int.tmod (w64 ((w64 ((56 : Int) - (Int.tmod (w64 ((((List.length b) : Nat) : Int) + (1 : Int))) (64 : Int)))) + (64 : Int))) (64 : Int))) (0 : UInt8))) ++ (shaHigh (shl_u64 (UInt64.ofInt (((List.length b) : Nat) : Int)) (3 : Nat)) (8 : Nat)))
          else none
        else none
      else none
    else none
  else none) := by kernel_rfl
theorem sha_Padded_spec (b : List UInt8) (hb : b.length ≤ 1099511627776) : sha_Padded b = some (shaPad b) := by
  have z1 : w64 (((List.length b : Nat) : Int) + 1) = ((b.length + 1 : Nat) : Int) := by rw [w64_id (by omega) (by omega)]; omega
  have z2 : Int.tmod ((b.length + 1 : Nat) : Int) 64 = (((b.length + 1) % 64 : Nat) : Int) := rfl
  have z3 : w64 (56 - (((b.length + 1) % 64 : Nat) : Int)) = 56 - (((b.length + 1) % 64 : Nat) : Int) := w64_id (by omega) (by omega)
  have z4 : w64 (56 - (((b.length + 1) % 64 : Nat) : Int) + 64) = ((56 + 64 - (b.length + 1) % 64 : Nat) : Int) := by rw [w64_id (by omega) (by omega)]; omega
  have z5 : Int.tmod ((56 + 64 - (b.length + 1) % 64 : Nat) : Int) 64 = ((shaZeros b.length : Nat) : Int) := rfl
  have hz : shaZeros b.length < 64 := Nat.mod_lt _ (by omega)
  have z6 : w64 (((b.length + 1 : Nat) : Int) + ((shaZeros b.length : Nat) : Int)) = ((b.length + 1 + shaZeros b.length : Nat) : Int) := by rw [w64_id (by omega) (by omega)]; omega
  have z7 : w64 (((b.length + 1 + shaZeros b.length : Nat) : Int) + 8) = ((b.length + 1 + shaZeros b.length + 8 : Nat) : Int) := by rw [w64_id (by omega) (by omega)]; omega
  rw [sha_Padded_q]
  simp only [z1, z2, z3, z4, z5, z6, z7]
  generalize hze : shaZeros b.length = z at hz
  have h8 : (8 : Int).toNat = 8 := rfl
  simp only [List.replicate_zero, List.nil_append, Int.toNat_natCast, h8, List.length_append, List.length_cons, List.length_nil, List.length_replicate, shaHigh_len]
  rw [if_pos (by omega), if_pos (by omega), if_pos (by omega), if_pos (by omega), if_pos (by omega), ← hze]
  rfl

end
end Go.Proofs.YtbdajagcinfeeaaDoor.M

namespace Go.Proofs.YtbdajagcinfeeaaDoor.M
open Go
noncomputable section
/-- moneyer/sha.turn -/
def sha_turn (x_0 : UInt32) (n : Int) : UInt32 :=
  (bits_RotateLeft32 x_0 (w64 ((0 : Int) - n)))
theorem sha_turn_q (x_0 : UInt32) (n : Int) : sha_turn x_0 n = ((bits_RotateLeft32 x_0 (w64 ((0 : Int) - n)))) := by kernel_rfl

end
end Go.Proofs.YtbdajagcinfeeaaDoor.M

namespace Go.Proofs.YtbdajagcinfeeaaDoor.M
open Go
noncomputable section
/-- the loop 6 of moneyer/sha.Round -/
def sha_Round_h6 : Nat → (Vector UInt32 8) → Int → (Vector UInt32 8) → (Vector UInt32 8) → Option (Vector UInt32 8)
  | 0, _, _, _, _ => none
  | k + 1, t175, t176, s, t4 => bif decide (t176 < (8 : Int)) then (if ((0 : Int) ≤ t176) ∧ (t176 < (8 : Int)) then
        sha_Round_h6 k t175 (w64 (t176 + (1 : Int))) (Vector.setIfInBounds s (Int.toNat t176) ((List.getD (Vector.toList s) (Int.toNat t176) (0 : UInt32)) + (List.getD (Vector.toList t175) (Int.toNat t176) (0 : UInt32)))) t4
      else none)
      else (some s)
theorem sha_Round_h6_q (k : Nat) (t175 : Vector UInt32 8) (t176 : Int) (s : Vector UInt32 8) (t4 : Vector UInt32 8) : sha_Round_h6 (k + 1) t175 t176 s t4 =
  (bif decide (t176 < (8 : Int)) then (if ((0 : Int) ≤ t176) ∧ (t176 < (8 : Int)) then
        sha_Round_h6 k t175 (w64 (t176 + (1 : Int))) (Vector.setIfInBounds s (Int.toNat t176) ((List.getD (Vector.toList s) (Int.toNat t176) (0 : UInt32)) + (List.getD (Vector.toList t175) (Int.toNat t176) (0 : UInt32)))) t4
      else none)
      else (some s)) := by kernel_rfl
/-- the loop 4 of moneyer/sha.Round -/
def sha_Round_h4 : Nat → UInt32 → UInt32 → UInt32 → UInt32 → UInt32 → UInt32 → UInt32 → UInt32 → Int → (Vector UInt32 8) → (Vector UInt32 8) → (Vector UInt32 64) → Option (Vector UInt32 8)
  | 0, _, _, _, _, _, _, _, _, _, _, _, _ => none
  | k + 1, a, bb, c, d, e, f, g, h_, t104, s, t4, w => bif decide (t104 < (64 : Int)) then (if ((0 : Int) ≤ t104) ∧ (t104 < (64 : Int)) then
        sha_Round_h4 k (((((h_ + (((sha_turn e (6 : Int)) ^^^ (sha_turn e (11 : Int))) ^^^ (sha_turn e (25 : Int)))) + ((e &&& f) ^^^ ((~~~e) &&& g))) + (List.getD (Vector.toList shaK) (Int.toNat t104) (0 : UInt32))) + (List.getD (Vector.toList w) (Int.toNat t104) (0 : UInt32))) + ((((sha_turn a (2 : Int)) ^^^ (sha_turn a (13 : Int))) ^^^ (sha_turn a (22 : Int))) + (((a &&& bb) ^^^ (a &&& c)) ^^^ (bb &&& c)))) a bb c (d + ((((h_ + (((sha_turn e (6 : Int)) ^^^ (sha_turn e (11 : Int))) ^^^ (sha_turn e (25 : Int)))) + ((e &&& f) ^^^ ((~~~e) &&& g))) + (List.getD (Vector.toList shaK) (Int.toNat t104) (0 : UInt32))) + (List.getD (Vector.toList w) (Int.toNat t104) (0 : UInt32)))) e f g (w64 (t104 + (1 : Int))) s t4 w
      else none)
      else (sha_Round_h6 k (Vector.setIfInBounds (Vector.setIfInBounds (Vector.setIfInBounds (Vector.setIfInBounds (Vector.setIfInBounds (Vector.setIfInBounds (Vector.setIfInBounds (Vector.setIfInBounds (Vector.replicate (8 : Nat) (0 : UInt32)) (0 : Nat) a) (1 : Nat) bb) (2 : Nat) c) (3 : Nat) d) (4 : Nat) e) (5 : Nat) f) (6 : Nat) g) (7 : Nat) h_) (0 : Int) s t4)
theorem sha_Round_h4_q (k : Nat) (a : UInt32) (bb : UInt32) (c : UInt32) (d : UInt32) (e : UInt32) (f : UInt32) (g : UInt32) (h_ : UInt32) (t104 : Int) (s : Vector UInt32 8) (t4 : Vector UInt32 8) (w : Vector UInt32 64) : sha_Round_h4 (k + 1) a bb c d e f g h_ t104 s t4 w =
  (bif decide (t104 < (64 : Int)) then (if ((0 : Int) ≤ t104) ∧ (t104 < (64 : Int)) then
        sha_Round_h4 k (((((h_ + (((sha_turn e (6 : Int)) ^^^ (sha_turn e (11 : Int))) ^^^ (sha_turn e (25 : Int)))) + ((e &&& f) ^^^ ((~~~e) &&& g))) + (List.getD (Vector.toList shaK) (Int.toNat t104) (0 : UInt32))) + (List.getD (Vector.toList w) (Int.toNat t104) (0 : UInt32))) + ((((sha_turn a (2 : Int)) ^^^ (sha_turn a (13 : Int))) ^^^ (sha_turn a (22 : Int))) + (((a &&& bb) ^^^ (a &&& c)) ^^^ (bb &&& c)))) a bb c (d + ((((h_ + (((sha_turn e (6 : Int)) ^^^ (sha_turn e (11 : Int))) ^^^ (sha_turn e (25 : Int)))) + ((e &&& f) ^^^ ((~~~e) &&& g))) + (List.getD (Vector.toList shaK) (Int.toNat t104) (0 : UInt32))) + (List.getD (Vector.toList w) (Int.toNat t104) (0 : UInt32)))) e f g (w64 (t104 + (1 : Int))) s t4 w
      else none)
      else (sha_Round_h6 k (Vector.setIfInBounds (Vector.setIfInBounds (Vector.setIfInBounds (Vector.setIfInBounds (Vector.setIfInBounds (Vector.setIfInBounds (Vector.setIfInBounds (Vector.setIfInBounds (Vector.replicate (8 : Nat) (0 : UInt32)) (0 : Nat) a) (1 : Nat) bb) (2 : Nat) c) (3 : Nat) d) (4 : Nat) e) (5 : Nat) f) (6 : Nat) g) (7 : Nat) h_) (0 : Int) s t4)) := by kernel_rfl
mutual
/-- the loop 0 of moneyer/sha.Round -/
def sha_Round_h0 : Nat → Int → (Vector UInt32 8) → (Vector UInt8 64) → (Vector UInt32 8) → (Vector UInt32 64) → Option (Vector UInt32 8)
  | 0, _, _, _, _, _ => none
  | k + 1, t24, s, b, t4, w => bif decide (t24 < (64 : Int)) then (bif decide (t24 < (16 : Int)) then (if ((0 : Int) ≤ (w64 ((4 : Int) * t24))) ∧ (((w64 ((4 : Int) * t24)) ≤ (w64 ((w64 ((4 : Int) * t24)) + (4 : Int)))) ∧ ((w64 ((w64 ((4 : Int) * t24)) + (4 : Int))) ≤ (((64 : Nat) : Nat) : Int))) then
          sha_Round_h2 k t24 t24 (Int.toNat (w64 ((4 : Int) * t24))) ((Int.toNat (w64 ((w64 ((4 : Int) * t24)) + (4 : Int)))) - (Int.toNat (w64 ((4 : Int) * t24)))) ((64 : Nat) - (Int.toNat (w64 ((4 : Int) * t24)))) ((((Int.toNat (w64 ((w64 ((4 : Int) * t24)) + (4 : Int)))) - (Int.toNat (w64 ((4 : Int) * t24)))) : Nat) : Int) (0 : Int) s b t4 w
        else none)
        else (if ((0 : Int) ≤ (w64 (t24 - (15 : Int)))) ∧ ((w64 (t24 - (15 : Int))) < (64 : Int)) then
          if ((0 : Int) ≤ (w64 (t24 - (2 : Int)))) ∧ ((w64 (t24 - (2 : Int))) < (64 : Int)) then
            if ((0 : Int) ≤ (w64 (t24 - (16 : Int)))) ∧ ((w64 (t24 - (16 : Int))) < (64 : Int)) then
              if ((0 : Int) ≤ (w64 (t24 - (7 : Int)))) ∧ ((w64 (t24 - (7 : Int))) < (64 : Int)) then
                if ((0 : Int) ≤ t24) ∧ (t24 < (64 : Int)) then
                  sha_Round_h0 k (w64 (t24 + (1 : Int))) s b t4 (Vector.setIfInBounds w (Int.toNat t24) ((((List.getD (Vector.toList w) (Int.toNat (w64 (t24 - (16 : Int)))) (0 : UInt32)) + (List.getD (Vector.toList w) (Int.toNat (w64 (t24 - (7 : Int)))) (0 : UInt32))) + (((sha_turn (List.getD (Vector.toList w) (Int.toNat (w64 (t24 - (15 : Int)))) (0 : UInt32)) (7 : Int)) ^^^ (sha_turn (List.getD (Vector.toList w) (Int.toNat (w64 (t24 - (15 : Int)))) (0 : UInt32)) (18 : Int))) ^^^ (shr_u32 (List.getD (Vector.toList w) (Int.toNat (w64 (t24 - (15 : Int)))) (0 : UInt32)) (3 : Nat)))) + (((sha_turn (List.getD (Vector.toList w) (Int.toNat (w64 (t24 - (2 : Int)))) (0 : UInt32)) (17 : Int)) ^^^ (sha_turn (List.getD (Vector.toList w) (Int.toNat (w64 (t24 - (2 : Int)))) (0 : UInt32)) (19 : Int))) ^^^ (shr_u32 (List.getD (Vector.toList w) (Int.toNat (w64 (t24 - (2 : Int)))) (0 : UInt32)) (10 : Nat)))))
                else none
              else none
            else none
          else none
        else none))
      else (sha_Round_h4 k (List.getD (Vector.toList s) (0 : Nat) (0 : UInt32)) (List.getD (Vector.toList s) (1 : Nat) (0 : UInt32)) (List.getD (Vector.toList s) (2 : Nat) (0 : UInt32)) (List.getD (Vector.toList s) (3 : Nat) (0 : UInt32)) (List.getD (Vector.toList s) (4 : Nat) (0 : UInt32)) (List.getD (Vector.toList s) (5 : Nat) (0 : UInt32)) (List.getD (Vector.toList s) (6 : Nat) (0 : UInt32)) (List.getD (Vector.toList s) (7 : Nat) (0 : UInt32)) (0 : Int) s t4 w)
/-- the loop 2 of moneyer/sha.Round -/
def sha_Round_h2 : Nat → Int → Int → Nat → Nat → Nat → Int → Int → (Vector UInt32 8) → (Vector UInt8 64) → (Vector UInt32 8) → (Vector UInt32 64) → Option (Vector UInt32 8)
  | 0, _, _, _, _, _, _, _, _, _, _, _ => none
  | k + 1, i, t24, t34, t341, t342, t35, t36, s, b, t4, w => bif decide (t36 < t35) then (if ((0 : Int) ≤ t36) ∧ (t36 < ((t341 : Nat) : Int)) then
        if ((0 : Int) ≤ i) ∧ (i < (64 : Int)) then
          sha_Round_h2 k i t24 t34 t341 t342 t35 (w64 (t36 + (1 : Int))) s b t4 (Vector.setIfInBounds w (Int.toNat i) ((shl_u32 (List.getD (Vector.toList w) (Int.toNat i) (0 : UInt32)) (8 : Nat)) ||| (UInt8.toUInt32 (List.getD (Vector.toList b) (t34 + (Int.toNat t36)) (0 : UInt8)))))
        else none
      else none)
      else (sha_Round_h0 k (w64 (t24 + (1 : Int))) s b t4 w)
end
theorem sha_Round_h0_q (k : Nat) (t24 : Int) (s : Vector UInt32 8) (b : Vector UInt8 64) (t4 : Vector UInt32 8) (w : Vector UInt32 64) : sha_Round_h0 (k + 1) t24 s b t4 w =
  (bif decide (t24 < (64 : Int)) then (bif decide (t24 < (16 : Int)) then (if ((0 : Int) ≤ (w64 ((4 : Int) * t24))) ∧ (((w64 ((4 : Int) * t24)) ≤ (w64 ((w64 ((4 : Int) * t24)) + (4 : Int)))) ∧ ((w64 ((w64 ((4 : Int) * t24)) + (4 : Int))) ≤ (((64 : Nat) : Nat) : Int))) then
          sha_Round_h2 k t24 t24 (Int.toNat (w64 ((4 : Int) * t24))) ((Int.toNat (w64 ((w64 ((4 : Int) * t24)) + (4 : Int)))) - (Int.toNat (w64 ((4 : Int) * t24)))) ((64 : Nat) - (Int.toNat (w64 ((4 : Int) * t24)))) ((((Int.toNat (w64 ((w64 ((4 : Int) * t24)) + (4 : Int)))) - (Int.toNat (w64 ((4 : Int) * t24)))) : Nat) : Int) (0 : Int) s b t4 w
        else none)
        else (if ((0 : Int) ≤ (w64 (t24 - (15 : Int)))) ∧ ((w64 (t24 - (15 : Int))) < (64 : Int)) then
          if ((0 : Int) ≤ (w64 (t24 - (2 : Int)))) ∧ ((w64 (t24 - (2 : Int))) < (64 : Int)) then
            if ((0 : Int) ≤ (w64 (t24 - (16 : Int)))) ∧ ((w64 (t24 - (16 : Int))) < (64 : Int)) then
              if ((0 : Int) ≤ (w64 (t24 - (7 : Int)))) ∧ ((w64 (t24 - (7 : Int))) < (64 : Int)) then
                if ((0 : Int) ≤ t24) ∧ (t24 < (64 : Int)) then
                  sha_Round_h0 k (w64 (t24 + (1 : Int))) s b t4 (Vector.setIfInBounds w (Int.toNat t24) ((((List.getD (Vector.toList w) (Int.toNat (w64 (t24 - (16 : Int)))) (0 : UInt32)) + (List.getD (Vector.toList w) (Int.toNat (w64 (t24 - (7 : Int)))) (0 : UInt32))) + (((sha_turn (List.getD (Vector.toList w) (Int.toNat (w64 (t24 - (15 : Int)))) (0 : UInt32)) (7 : Int)) ^^^ (sha_turn (List.getD (Vector.toList w) (Int.toNat (w64 (t24 - (15 : Int)))) (0 : UInt32)) (18 : Int))) ^^^ (shr_u32 (List.getD (Vector.toList w) (Int.toNat (w64 (t24 - (15 : Int)))) (0 : UInt32)) (3 : Nat)))) + (((sha_turn (List.getD (Vector.toList w) (Int.toNat (w64 (t24 - (2 : Int)))) (0 : UInt32)) (17 : Int)) ^^^ (sha_turn (List.getD (Vector.toList w) (Int.toNat (w64 (t24 - (2 : Int)))) (0 : UInt32)) (19 : Int))) ^^^ (shr_u32 (List.getD (Vector.toList w) (Int.toNat (w64 (t24 - (2 : Int)))) (0 : UInt32)) (10 : Nat)))))
                else none
              else none
            else none
          else none
        else none))
      else (sha_Round_h4 k (List.getD (Vector.toList s) (0 : Nat) (0 : UInt32)) (List.getD (Vector.toList s) (1 : Nat) (0 : UInt32)) (List.getD (Vector.toList s) (2 : Nat) (0 : UInt32)) (List.getD (Vector.toList s) (3 : Nat) (0 : UInt32)) (List.getD (Vector.toList s) (4 : Nat) (0 : UInt32)) (List.getD (Vector.toList s) (5 : Nat) (0 : UInt32)) (List.getD (Vector.toList s) (6 : Nat) (0 : UInt32)) (List.getD (Vector.toList s) (7 : Nat) (0 : UInt32)) (0 : Int) s t4 w)) := by kernel_rfl
theorem sha_Round_h2_q (k : Nat) (i : Int) (t24 : Int) (t34 : Nat) (t341 : Nat) (t342 : Nat) (t35 : Int) (t36 : Int) (s : Vector UInt32 8) (b : Vector UInt8 64) (t4 : Vector UInt32 8) (w : Vector UInt32 64) : sha_Round_h2 (k + 1) i t24 t34 t341 t342 t35 t36 s b t4 w =
  (bif decide (t36 < t35) then (if ((0 : Int) ≤ t36) ∧ (t36 < ((t341 : Nat) : Int)) then
        if ((0 : Int) ≤ i) ∧ (i < (64 : Int)) then
          sha_Round_h2 k i t24 t34 t341 t342 t35 (w64 (t36 + (1 : Int))) s b t4 (Vector.setIfInBounds w (Int.toNat i) ((shl_u32 (List.getD (Vector.toList w) (Int.toNat i) (0 : UInt32)) (8 : Nat)) ||| (UInt8.toUInt32 (List.getD (Vector.toList b) (t34 + (Int.toNat t36)) (0 : UInt8)))))
        else none
      else none)
      else (sha_Round_h0 k (w64 (t24 + (1 : Int))) s b t4 w)) := by kernel_rfl
/-- moneyer/sha.Round -/
def sha_Round (k : Nat) (s : Vector UInt32 8) (b : Vector UInt8 64) : Option (Vector UInt32 8) :=
  sha_Round_h0 k (0 : Int) s b (Vector.replicate (8 : Nat) (0 : UInt32)) (Vector.replicate (64 : Nat) (0 : UInt32))
theorem sha_Round_q (k : Nat) (s : Vector UInt32 8) (b : Vector UInt8 64) : sha_Round k s b = (sha_Round_h0 k (0 : Int) s b (Vector.replicate (8 : Nat) (0 : UInt32)) (Vector.replicate (64 : Nat) (0 : UInt32))) := by kernel_rfl
theorem sha_turn_eq (x : UInt32) : sha_turn x 2 = shT x 2 ∧ sha_turn x 6 = shT x 6 ∧ sha_turn x 7 = shT x 7 ∧ sha_turn x 11 = shT x 11 ∧ sha_turn x 13 = shT x 13 ∧ sha_turn x 17 = shT x 17 ∧ sha_turn x 18 = shT x 18 ∧ sha_turn x 19 = shT x 19 ∧ sha_turn x 22 = shT x 22 ∧ sha_turn x 25 = shT x 25 := by
  have h : ∀ (n m : Nat), (UInt64.toNat ((UInt64.ofInt (w64 (0 - (n : Int)))) &&& 31)) = m → (UInt64.toNat (32 - ((UInt64.ofInt (w64 (0 - (n : Int)))) &&& 31))) = n → 32 - n = m → sha_turn x n = shT x n := by
    intro n m h1 h2 h3
    unfold sha_turn bits_RotateLeft32 shT
    rw [h1, h2, h3, UInt32.or_comm]
  refine ⟨h 2 30 ?_ ?_ rfl, h 6 26 ?_ ?_ rfl, h 7 25 ?_ ?_ rfl, h 11 21 ?_ ?_ rfl, h 13 19 ?_ ?_ rfl, h 17 15 ?_ ?_ rfl, h 18 14 ?_ ?_ rfl, h 19 13 ?_ ?_ rfl, h 22 10 ?_ ?_ rfl, h 25 7 ?_ ?_ rfl⟩ <;> decide +kernel

theorem sha_Round_l6 (x s t4 : Vector UInt32 8) : Ev (fun k => sha_Round_h6 k x 0 s t4) (shPlus s x) := by
  refine Ev.up (H := fun k i s => sha_Round_h6 k x i s t4) (n := 8) (step := fun i (a : Vector UInt32 8) => Vector.setIfInBounds a i (List.getD (Vector.toList a) i 0 + List.getD (Vector.toList x) i 0)) ?_ 8 0 s (Nat.le_refl 0) rfl ?_
  · intro i s _ hi e
    refine Ev.step (fun k => ?_) e
    rw [sha_Round_h6_q, bif_pos (by omega), if_pos (by omega), w64_id (by omega) (by omega), Int.toNat_natCast]
  · refine Ev.done fun k => ?_
    rw [sha_Round_h6_q, bif_neg (by omega), shPlus_loop]

theorem sha_Round_l4 (s t4 : Vector UInt32 8) (w : Vector UInt32 64) (v : Vector UInt32 8) :
    Ev (fun k => sha_Round_h4 k (shG v 0) (shG v 1) (shG v 2) (shG v 3) (shG v 4) (shG v 5) (shG v 6) (shG v 7) 0 s t4 w) (shPlus s (iterUp (shStep shaK w) 0 64 v)) := by
  refine Ev.up (H := fun k i v => sha_Round_h4 k (shG v 0) (shG v 1) (shG v 2) (shG v 3) (shG v 4) (shG v 5) (shG v 6) (shG v 7) i s t4 w) (n := 64) (step := shStep shaK w) ?_ 64 0 v (Nat.le_refl 0) rfl ?_
  · intro i v _ hi e
    refine Ev.step (fun k => ?_) e
    rw [sha_Round_h4_q, bif_pos (by omega), if_pos (by omega), w64_id (by omega) (by omega), Int.toNat_natCast]
    have t := fun x => sha_turn_eq x
    simp only [(t _).1, (t _).2.1, (t _).2.2.1, (t _).2.2.2.1, (t _).2.2.2.2.1, (t _).2.2.2.2.2.1, (t _).2.2.2.2.2.2.1, (t _).2.2.2.2.2.2.2.1, (t _).2.2.2.2.2.2.2.2.1, (t _).2.2.2.2.2.2.2.2.2]
    rfl
  · refine Ev.step (fun k => ?_) (sha_Round_l6 (iterUp (shStep shaK w) 0 64 v) s t4)
    rw [sha_Round_h4_q, bif_neg (by omega)]
    generalize iterUp (shStep shaK w) 0 64 v = x
    refine congrArg (fun y => sha_Round_h6 k y 0 s t4) ?_
    refine vext 0 fun j hj => ?_
    have : j = 0 ∨ j = 1 ∨ j = 2 ∨ j = 3 ∨ j = 4 ∨ j = 5 ∨ j = 6 ∨ j = 7 := by omega
    rcases this with h | h | h | h | h | h | h | h <;> subst h <;> simp [vget_set, shG]

theorem sha_Round_raw (s : Vector UInt32 8) (b : Vector UInt8 64) : ∃ k, sha_Round k s b = some (shRound shaK s (fun i => List.getD (Vector.toList b) i 0)) := by
  show Ev (fun k => sha_Round k s b) _
  refine Ev.same (fun k => sha_Round_q k s b) ?_
  let t4 : Vector UInt32 8 := Vector.replicate 8 0
  -- the words behind the first 16
  have h2 : Ev (fun k => sha_Round_h0 k ((16 : Nat) : Int) s b t4 (iterUp (shFill fun i => List.getD (Vector.toList b) i 0) 0 16 (Vector.replicate 64 0))) (shRound shaK s (fun i => List.getD (Vector.toList b) i 0)) := by
    have : Ev (fun k => sha_Round_h0 k ((64 : Nat) : Int) s b t4 (shW fun i => List.getD (Vector.toList b) i 0)) (shRound shaK s (fun i => List.getD (Vector.toList b) i 0)) := by
      refine Ev.step (fun k => ?_) (sha_Round_l4 s t4 (shW fun i => List.getD (Vector.toList b) i 0) s)
      rw [sha_Round_h0_q, bif_neg (by omega)]
      rfl
    refine Ev.up (H := fun k i w => sha_Round_h0 k i s b t4 w) (lo := 16) (n := 64) (step := fun i w => Vector.setIfInBounds w i (shSched w i)) ?_ 48 16 _ (Nat.le_refl 16) rfl this
    intro i w h16 hi e
    refine Ev.step (fun k => ?_) e
    have a1 : w64 ((i : Int) - 15) = ((i - 15 : Nat) : Int) := by rw [w64_id (by omega) (by omega)]; omega
    have a2 : w64 ((i : Int) - 2) = ((i - 2 : Nat) : Int) := by rw [w64_id (by omega) (by omega)]; omega
    have a3 : w64 ((i : Int) - 16) = ((i - 16 : Nat) : Int) := by rw [w64_id (by omega) (by omega)]; omega
    have a4 : w64 ((i : Int) - 7) = ((i - 7 : Nat) : Int) := by rw [w64_id (by omega) (by omega)]; omega
    rw [sha_Round_h0_q, bif_pos (by omega), bif_neg (by omega), a1, a2, a3, a4, if_pos (by omega), if_pos (by omega), if_pos (by omega), if_pos (by omega), if_pos (by omega), w64_id (by omega) (by omega)]
    simp only [Int.toNat_natCast]
    have t := fun x => sha_turn_eq x
    simp only [(t _).1, (t _).2.1, (t _).2.2.1, (t _).2.2.2.1, (t _).2.2.2.2.1, (t _).2.2.2.2.2.1, (t _).2.2.2.2.2.2.1, (t _).2.2.2.2.2.2.2.1, (t _).2.2.2.2.2.2.2.2.1, (t _).2.2.2.2.2.2.2.2.2]
    rfl
  refine Ev.up (H := fun k i w => sha_Round_h0 k i s b t4 w) (n := 16) (step := shFill fun i => List.getD (Vector.toList b) i 0) ?_ 16 0 _ (Nat.le_refl 0) rfl h2
  intro i w _ hi e
  have a1 : w64 (4 * (i : Int)) = ((4 * i : Nat) : Int) := by rw [w64_id (by omega) (by omega)]; omega
  have a2 : w64 (((4 * i : Nat) : Int) + 4) = ((4 * i + 4 : Nat) : Int) := by rw [w64_id (by omega) (by omega)]; omega
  refine Ev.step (g := fun k => sha_Round_h2 k i i (4 * i) 4 (64 - 4 * i) 4 0 s b t4 w) (fun k => ?_) ?_
  · rw [sha_Round_h0_q, bif_pos (by omega), bif_pos (by omega), a1, a2, if_pos (by omega)]
    simp only [Int.toNat_natCast]
    rw [show 4 * i + 4 - 4 * i = 4 by omega]
    rfl
  · refine Ev.up (H := fun k j w => sha_Round_h2 k i i (4 * i) 4 (64 - 4 * i) 4 j s b t4 w) (n := 4) (step := fun j w => Vector.setIfInBounds w i (shMix (List.getD (Vector.toList w) i 0) (List.getD (Vector.toList b) (4 * i + j) 0))) ?_ 4 0 w (Nat.le_refl 0) rfl ?_
    · intro j w _ hj e
      refine Ev.step (fun k => ?_) e
      rw [sha_Round_h2_q, bif_pos (by omega), if_pos (by omega), if_pos (by omega), w64_id (by omega) (by omega)]
      simp only [Int.toNat_natCast]
      rfl
    · refine Ev.step (fun k => ?_) e
      rw [sha_Round_h2_q, bif_neg (by omega), w64_id (by omega) (by omega)]
      rfl
theorem sha_Round_spec (s : Vector UInt32 8) (b : Vector UInt8 64) : ∃ k, sha_Round k s b = some (shaRound shaK s (fun i => List.getD (Vector.toList b) i 0)) := by
  rw [shaRound_eq]; exact sha_Round_raw s b

end
end Go.Proofs.YtbdajagcinfeeaaDoor.M

namespace Go.Proofs.YtbdajagcinfeeaaDoor.M
open Go
noncomputable section
/-- the loop 2 of moneyer/sha.Sum -/
def sha_Sum_h2 : Nat → (Vector UInt32 8) → Int → (Vector UInt8 32) → (Vector UInt8 32) → Option (Vector UInt8 32)
  | 0, _, _, _, _ => none
  | k + 1, t27, t28, t2, out => bif decide (t28 < (8 : Int)) then (if ((0 : Int) ≤ t28) ∧ (t28 < (8 : Int)) then
        if ((0 : Int) ≤ (w64 ((4 : Int) * t28))) ∧ (((w64 ((4 : Int) * t28)) ≤ (32 : Int)) ∧ ((32 : Int) ≤ (((32 : Nat) : Nat) : Int))) then
          sha_Sum_h2 k t27 (w64 (t28 + (1 : Int))) t2 (Vector.ofFn (fun (z5 : Fin 32) => (List.getD (overS (Int.toNat (w64 ((4 : Int) * t28))) (Min.min (List.length (shaHigh (UInt32.toUInt64 (List.getD (Vector.toList t27) (Int.toNat t28) (0 : UInt32))) (4 : Nat))) ((Int.toNat (32 : Int)) - (Int.toNat (w64 ((4 : Int) * t28))))) (Vector.toList out) (shaHigh (UInt32.toUInt64 (List.getD (Vector.toList t27) (Int.toNat t28) (0 : UInt32))) (4 : Nat))) ((0 : Nat) + (Fin.val z5)) (0 : UInt8))))
        else none
      else none)
      else (some out)
theorem sha_Sum_h2_q (k : Nat) (t27 : Vector UInt32 8) (t28 : Int) (t2 : Vector UInt8 32) (out : Vector UInt8 32) : sha_Sum_h2 (k + 1) t27 t28 t2 out =
  (bif decide (t28 < (8 : Int)) then (if ((0 : Int) ≤ t28) ∧ (t28 < (8 : Int)) then
        if ((0 : Int) ≤ (w64 ((4 : Int) * t28))) ∧ (((w64 ((4 : Int) * t28)) ≤ (32 : Int)) ∧ ((32 : Int) ≤ (((32 : Nat) : Nat) : Int))) then
          sha_Sum_h2 k t27 (w64 (t28 + (1 : Int))) t2 (Vector.ofFn (fun (z5 : Fin 32) => (List.getD (overS (Int.toNat (w64 ((4 : Int) * t28))) (Min.min (List.length (shaHigh (UInt32.toUInt64 (List.getD (Vector.toList t27) (Int.toNat t28) (0 : UInt32))) (4 : Nat))) ((Int.toNat (32 : Int)) - (Int.toNat (w64 ((4 : Int) * t28))))) (Vector.toList out) (shaHigh (UInt32.toUInt64 (List.getD (Vector.toList t27) (Int.toNat t28) (0 : UInt32))) (4 : Nat))) ((0 : Nat) + (Fin.val z5)) (0 : UInt8))))
        else none
      else none)
      else (some out)) := by kernel_rfl
/-- the loop 0 of moneyer/sha.Sum -/
def sha_Sum_h0 : Nat → Int → (Vector UInt8 32) → (Vector UInt32 8) → (List UInt8) → Option (Vector UInt8 32)
  | 0, _, _, _, _ => none
  | k + 1, i, t2, s, p => bif decide (i < (((List.length p) : Nat) : Int)) then (if ((0 : Int) ≤ i) ∧ ((i ≤ (w64 (i + (64 : Int)))) ∧ ((w64 (i + (64 : Int))) ≤ (((List.length p) : Nat) : Int))) then
        if ((64 : Nat) ≤ ((Int.toNat (w64 (i + (64 : Int)))) - (Int.toNat i))) ∧ ((0 : Nat) < (64 : Nat)) then
          sha_Sum_h0 k (w64 (i + (64 : Int))) t2 (shaRound shaK s (fun (z5 : Nat) => (List.getD (Vector.toList (Vector.ofFn (fun (z6 : Fin 64) => (List.getD p ((Int.toNat i) + (Fin.val z6)) (0 : UInt8))))) z5 (0 : UInt8)))) p
        else none
      else none)
      else (sha_Sum_h2 k s (0 : Int) t2 (Vector.replicate (32 : Nat) (0 : UInt8)))
theorem sha_Sum_h0_q (k : Nat) (i : Int) (t2 : Vector UInt8 32) (s : Vector UInt32 8) (p : List UInt8) : sha_Sum_h0 (k + 1) i t2 s p =
  (bif decide (i < (((List.length p) : Nat) : Int)) then (if ((0 : Int) ≤ i) ∧ ((i ≤ (w64 (i + (64 : Int)))) ∧ ((w64 (i + (64 : Int))) ≤ (((List.length p) : Nat) : Int))) then
        if ((64 : Nat) ≤ ((Int.toNat (w64 (i + (64 : Int)))) - (Int.toNat i))) ∧ ((0 : Nat) < (64 : Nat)) then
          sha_Sum_h0 k (w64 (i + (64 : Int))) t2 (shaRound shaK s (fun (z5 : Nat) => (List.getD (Vector.toList (Vector.ofFn (fun (z6 : Fin 64) => (List.getD p ((Int.toNat i) + (Fin.val z6)) (0 : UInt8))))) z5 (0 : UInt8)))) p
        else none
      else none)
      else (sha_Sum_h2 k s (0 : Int) t2 (Vector.replicate (32 : Nat) (0 : UInt8)))) := by kernel_rfl
/-- moneyer/sha.Sum -/
def sha_Sum (k : Nat) (b : List UInt8) : Option (Vector UInt8 32) :=
  if (List.length b) ≤ (1099511627776 : Nat) then
    sha_Sum_h0 k (0 : Int) (Vector.replicate (32 : Nat) (0 : UInt8)) sha_Begin (shaPad b)
  else none
theorem sha_Sum_q (k : Nat) (b : List UInt8) : sha_Sum k b = (if (List.length b) ≤ (1099511627776 : Nat) then
    sha_Sum_h0 k (0 : Int) (Vector.replicate (32 : Nat) (0 : UInt8)) sha_Begin (shaPad b)
  else none) := by kernel_rfl
theorem sha_Begin_eq : sha_Begin = shaInit := by rfl
def shaPut (s : Vector UInt32 8) (i : Nat) (out : Vector UInt8 32) : Vector UInt8 32 :=
  Vector.ofFn (fun (z5 : Fin 32) => (List.getD (overS (4 * i) 4 (Vector.toList out) (shaHigh (UInt32.toUInt64 (List.getD (Vector.toList s) i (0 : UInt32))) (4 : Nat))) ((0 : Nat) + (Fin.val z5)) (0 : UInt8)))
theorem shaPut_get (s : Vector UInt32 8) (i : Nat) (out : Vector UInt8 32) (hi : i < 8) (j : Nat) (hj : j < 32) : (shaPut s i out).toList.getD j 0 = if 4 * i ≤ j ∧ j < 4 * i + 4 then shaByte s j else out.toList.getD j 0 := by
  unfold shaPut
  rw [vget_ofFn _ _ _ hj, Nat.zero_add]
  dsimp only
  rw [overS_getD _ _ _ _ _ _ (by simp; omega) (by simp [shaHigh_len])]
  split
  · rename_i h
    rw [shaHigh_get _ _ _ (by omega), shr_32_64 _ _ (by omega)]
    unfold shaByte shG
    rw [show i = j / 4 by omega, show 8 * (4 - 1 - (j - 4 * (j / 4))) = 24 - 8 * (j % 4) by omega]
  · rfl
theorem sha_Sum_l2 (s : Vector UInt32 8) (t2 out : Vector UInt8 32) : Ev (fun k => sha_Sum_h2 k s 0 t2 out) (shaOut s) := by
  refine Ev.up (H := fun k i out => sha_Sum_h2 k s i t2 out) (lo := 0) (n := 8) (step := shaPut s) ?_ 8 0 out (Nat.le_refl 0) rfl ?_
  · intro i out _ hi e
    refine Ev.step (fun k => ?_) e
    have a1 : w64 (4 * (i : Int)) = ((4 * i : Nat) : Int) := by rw [w64_id (by omega) (by omega)]; omega
    have a2 : min 4 (Int.toNat (32 : Int) - 4 * i) = 4 := by simp; omega
    rw [sha_Sum_h2_q, bif_pos (by omega), if_pos (by omega), if_pos (by rw [a1]; omega), a1, w64_id (by omega) (by omega)]
    simp only [Int.toNat_natCast, shaHigh_len, a2]
    rfl
  · refine Ev.done fun k => ?_
    rw [sha_Sum_h2_q, bif_neg (by omega)]
    refine congrArg some ?_
    have gen : ∀ m, m ≤ 8 → ∀ j, j < 32 → (iterUp (shaPut s) 0 m out).toList.getD j 0 = if j < 4 * m then shaByte s j else out.toList.getD j 0 := by
      intro m
      induction m with
      | zero => intro _ j _; rw [if_neg (by omega)]; rfl
      | succ m ih =>
        intro hm j hj
        rw [iterUp_succ, Nat.zero_add, shaPut_get s m _ (by omega) j hj, ih (by omega) j hj]
        by_cases h : j < 4 * m
        · rw [if_neg (by omega), if_pos h, if_pos (by omega)]
        · by_cases h2 : j < 4 * m + 4
          · rw [if_pos (by omega), if_pos (by omega)]
          · rw [if_neg (by omega), if_neg h, if_neg (by omega)]
    refine vext 0 fun j hj => ?_
    rw [gen 8 (Nat.le_refl _) j hj, if_pos (by omega)]
    exact (vget_ofFn (fun i : Fin 32 => shaByte s i.val) j 0 hj).symm
theorem sha_Sum_spec (b : List UInt8) (hb : b.length ≤ 1099511627776) : ∃ k, sha_Sum k b = some (shaSum b) := by
  show Ev (fun k => sha_Sum k b) _
  refine Ev.same (fun k => by rw [sha_Sum_q, if_pos hb, sha_Begin_eq]) ?_
  obtain ⟨p1, p2, p3⟩ := shaPad_len b
  have gen : ∀ n s, n * 64 ≤ (shaPad b).length → s = shaFold (shaPad b) n → Ev (fun k => sha_Sum_h0 k ((64 * n : Nat) : Int) (Vector.replicate 32 0) s (shaPad b)) (shaSum b) := by
    intro n s hn hs
    generalize hm : (shaPad b).length / 64 - n = m
    induction m generalizing n s with
    | zero =>
      have h1 : n = (shaPad b).length / 64 := by omega
      have h2 : shaSum b = shaOut s := by rw [shaSum_eq, ← h1, ← hs]
      rw [h2]
      refine Ev.step (fun k => ?_) (sha_Sum_l2 s (Vector.replicate 32 0) (Vector.replicate 32 0))
      rw [sha_Sum_h0_q, bif_neg (by omega)]
    | succ m ih =>
      refine Ev.step (fun k => ?_) (ih (n + 1) (shaFold (shaPad b) (n + 1)) (by omega) rfl (by omega))
      have a1 : w64 (((64 * n : Nat) : Int) + 64) = ((64 * (n + 1) : Nat) : Int) := by rw [w64_id (by omega) (by omega)]; omega
      rw [sha_Sum_h0_q, bif_pos (by omega), a1, if_pos (by omega), if_pos (by omega)]
      subst hs
      simp only [Int.toNat_natCast]
      refine congrArg (fun y => sha_Sum_h0 k ((64 * (n + 1) : Nat) : Int) (Vector.replicate 32 0) y (shaPad b)) ?_
      exact shaRound_congr fun j hj => vget_ofFn (fun z : Fin 64 => (shaPad b).getD (64 * n + z.val) 0) j 0 hj
  exact gen 0 _ (by omega) rfl

end
end Go.Proofs.YtbdajagcinfeeaaDoor.M

namespace Go.Proofs.YtbdajagcinfeeaaDoor.M
open Go
noncomputable section
/-- moneyer/sha.Twice -/
def sha_Twice (b : List UInt8) : Option (Vector UInt8 32) :=
  if (List.length b) ≤ (1099511627776 : Nat) then
    if (List.length (List.take ((Int.toNat (32 : Int)) - (Int.toNat (0 : Int))) (List.drop (Int.toNat (0 : Int)) (Vector.toList (shaSum b))))) ≤ (1099511627776 : Nat) then
      some (shaSum (List.take ((Int.toNat (32 : Int)) - (Int.toNat (0 : Int))) (List.drop (Int.toNat (0 : Int)) (Vector.toList (shaSum b)))))
    else none
  else none
theorem sha_Twice_q (b : List UInt8) : sha_Twice b = (if (List.length b) ≤ (1099511627776 : Nat) then
    if (List.length (List.take ((Int.toNat (32 : Int)) - (Int.toNat (0 : Int))) (List.drop (Int.toNat (0 : Int)) (Vector.toList (shaSum b))))) ≤ (1099511627776 : Nat) then
      some (shaSum (List.take ((Int.toNat (32 : Int)) - (Int.toNat (0 : Int))) (List.drop (Int.toNat (0 : Int)) (Vector.toList (shaSum b)))))
    else none
  else none) := by kernel_rfl
theorem sha_Twice_spec (b : List UInt8) (hb : b.length ≤ 1099511627776) : sha_Twice b = some (shaSum (Vector.toList (shaSum b))) := by
  rw [sha_Twice_q, if_pos hb, take32, if_pos (by simp)]

end
end Go.Proofs.YtbdajagcinfeeaaDoor.M

namespace Go.Proofs.YtbdajagcinfeeaaDoor.M
open Go
noncomputable section
set_option maxRecDepth 100000
set_option maxHeartbeats 0
noncomputable def sha_Begin_T : Tbl := []
noncomputable def sha_Begin_C : CfgW := mkC Tryd.prog theG sha_Begin_T 2 0 false
def sha_Begin_lv : Nat → List Nat := fun i => []
noncomputable abbrev sha_Begin_b : Code := Tryd.f80.body.getD .skip
noncomputable abbrev sha_Begin_r : List ResultVar := Tryd.f80.results.toList
def sha_Begin_hs : List Nat := []

def sha_Begin_enc (r : Vector UInt32 8) : CallOut := ⟨.pv (.arr .u32 8 r), [], true, []⟩
theorem sha_Begin_e  (Q : CallOut → Prop) : evalFnP sha_Begin_C sha_Begin_lv sha_Begin_r sha_Begin_hs sha_Begin_b [] [] Q =
    (Q (sha_Begin_enc (Vector.setIfInBounds (Vector.setIfInBounds (Vector.setIfInBounds (Vector.setIfInBounds (Vector.setIfInBounds (Vector.setIfInBounds (Vector.setIfInBounds (Vector.setIfInBounds (Vector.replicate (8 : Nat) (0 : UInt32)) (0 : Nat) (1779033703 : UInt32)) (1 : Nat) (3144134277 : UInt32)) (2 : Nat) (1013904242 : UInt32)) (3 : Nat) (2773480762 : UInt32)) (4 : Nat) (1359893119 : UInt32)) (5 : Nat) (2600822924 : UInt32)) (6 : Nat) (528734635 : UInt32)) (7 : Nat) (1541459225 : UInt32)))) := by kernel_rfl
theorem sha_Begin_w  {Q : CallOut → Prop} (h : Q (sha_Begin_enc (sha_Begin ))) : evalFnP sha_Begin_C sha_Begin_lv sha_Begin_r sha_Begin_hs sha_Begin_b [] [] Q :=
  Eq.mpr (sha_Begin_e  Q) (have h := Eq.mp (congrArg (fun r => Q (sha_Begin_enc r)) (sha_Begin_q )) h; h)
def sha_Begin_c : Ans
  | [], [] => some (none, sha_Begin_enc (sha_Begin ))
  | _, _ => none
theorem sha_Begin_tok : TblOK Tryd.prog theG sha_Begin_T := .nil
theorem sha_Begin_ok : FnOK Tryd.prog theG 80 (unW sha_Begin_c) := by
  refine FnOK.ofC (T := sha_Begin_T) (nt := 2) (np := 0) (mv := []) (nf := false) (hs := sha_Begin_hs) (fn := Tryd.f80) (body := sha_Begin_b) sha_Begin_tok (by kernel_rfl) (by kernel_rfl) (by kernel_rfl) (by kernel_rfl) (c := sha_Begin_c) (lv := sha_Begin_lv) ?_
  intro xs mem p out h hp
  unfold sha_Begin_c at h
  split at h
  · cases h
    exact sha_Begin_w  rfl
  · cases h
end
end Go.Proofs.YtbdajagcinfeeaaDoor.M

namespace Go.Proofs.YtbdajagcinfeeaaDoor.M
open Go
noncomputable section
set_option maxRecDepth 100000
set_option maxHeartbeats 0
noncomputable def sha_high_T : Tbl := []
noncomputable def sha_high_C : CfgW := mkC Tryd.prog theG sha_high_T 27 0 false
def sha_high_lv : Nat → List Nat := fun i => bif Nat.beq i 0 then [0, 1, 5, 10, 11] else []
noncomputable abbrev sha_high_b : Code := Tryd.f83.body.getD .skip
noncomputable abbrev sha_high_r : List ResultVar := Tryd.f83.results.toList
def sha_high_hs : List Nat := []

def sha_high_enc (r : List UInt8) : CallOut := ⟨.o 60000, [(60000, .row (.s .u8 r) false)], true, []⟩
def sha_high_s0 (n : UInt64) (many : Int) (t10 : Int) (t11 : Int) (b : List UInt8) : St := ⟨[(0, .pv (.sc .u64 n)), (1, .pv (.sc .i many)), (5, .o 60000), (10, .pv (.sc .i t10)), (11, .pv (.sc .i t11))], [(60000, .row (.s .u8 b) true)]⟩
theorem sha_high_g0 (n : UInt64) (many : Int) (t10 : Int) (t11 : Int) (b : List UInt8) (Q : CallOut → Prop) : headRound sha_high_C sha_high_lv [true, true, false, true, false] sha_high_b (sha_high_s0 n many t10 t11 b) (fnK sha_high_C sha_high_r sha_high_hs Q) =
    (condP (decide (t11 < t10)) (((0 : Int) ≤ (w64 ((8 : Int) * t11))) ∧ ((((0 : Int) ≤ (w64 ((w64 (many - (1 : Int))) - t11))) ∧ ((w64 ((w64 (many - (1 : Int))) - t11)) < (((List.length b) : Nat) : Int))) ∧ (headP sha_high_C sha_high_lv [true, true, false, true, false] sha_high_b (sha_high_s0 n many t10 (w64 (t11 + (1 : Int))) (List.set b (Int.toNat (w64 ((w64 (many - (1 : Int))) - t11))) (UInt64.toUInt8 (shr_u64 n (Int.toNat (w64 ((8 : Int) * t11))))))) (fnK sha_high_C sha_high_r sha_high_hs Q)))) (Q (sha_high_enc b))) := by kernel_rfl
theorem sha_high_k0 {r : List UInt8} {Q : CallOut → Prop} (hQ : Q (sha_high_enc r)) : ∀ k : Nat, (∀ (n : UInt64) (many : Int) (t10 : Int) (t11 : Int) (b : List UInt8), sha_high_h0 k n many t10 t11 b = some r → headP sha_high_C sha_high_lv [true, true, false, true, false] sha_high_b (sha_high_s0 n many t10 t11 b) (fnK sha_high_C sha_high_r sha_high_hs Q))
  | 0 => fun _ _ _ _ _ h => no_ok h
  | k + 1 => fun n many t10 t11 b h => headP_step (Eq.mpr (sha_high_g0 n many t10 t11 b Q) (have h := (sha_high_h0_q k n many t10 t11 b).symm.trans h; cond_ok h (fun h => ite_ok h fun hc0 h => ite_ok h fun hc1 h => (sha_high_k0 hQ k) _ _ _ _ _ h) (fun h => ret_ok (Q := Q) (e := sha_high_enc) h hQ)))
theorem sha_high_e (n : UInt64) (many : Int) (Q : CallOut → Prop) : evalFnP sha_high_C sha_high_lv sha_high_r sha_high_hs sha_high_b [.pv (.sc .u64 n), .pv (.sc .i many)] [] Q =
    ((((0 : Int) ≤ many) ∧ ((many ≤ many) ∧ (((many * (((1 : Nat) : Nat) : Int)) ≤ (((70368744177664 : Nat) : Nat) : Int)) ∧ (many ≤ ((2 : Int) ^ (62 : Nat)))))) ∧ (headP sha_high_C sha_high_lv [true, true, false, true, false] sha_high_b (sha_high_s0 n many (((List.length (List.replicate (Int.toNat many) (0 : UInt8))) : Nat) : Int) (0 : Int) (List.replicate (Int.toNat many) (0 : UInt8))) (fnK sha_high_C sha_high_r sha_high_hs Q))) := by kernel_rfl
theorem sha_high_w {k : Nat} (n : UInt64) (many : Int) {r} {Q : CallOut → Prop} (h : sha_high k n many = some r) (hQ : Q (sha_high_enc r)) : evalFnP sha_high_C sha_high_lv sha_high_r sha_high_hs sha_high_b [.pv (.sc .u64 n), .pv (.sc .i many)] [] Q :=
  Eq.mpr (sha_high_e n many Q) (have h := (sha_high_q k n many).symm.trans h; ite_ok h fun hc0 h => (sha_high_k0 hQ _) _ _ _ _ _ h)
def sha_high_c : Ans
  | [.pv (.sc .u64 n), .pv (.sc .i many)], [] => some (some (0 ≤ many ∧ many ≤ 64), sha_high_enc (shaHigh n many.toNat))
  | _, _ => none
theorem sha_high_tok : TblOK Tryd.prog theG sha_high_T := .nil
theorem sha_high_ok : FnOK Tryd.prog theG 83 (unW sha_high_c) := by
  refine FnOK.ofC (T := sha_high_T) (nt := 27) (np := 0) (mv := []) (nf := false) (hs := sha_high_hs) (fn := Tryd.f83) (body := sha_high_b) sha_high_tok (by kernel_rfl) (by kernel_rfl) (by kernel_rfl) (by kernel_rfl) (c := sha_high_c) (lv := sha_high_lv) ?_
  intro xs mem p out h hp
  unfold sha_high_c at h
  split at h
  · cases h
    obtain ⟨k, hk⟩ := sha_high_spec _ _ hp
    exact sha_high_w _ _ hk rfl
  · cases h
end
end Go.Proofs.YtbdajagcinfeeaaDoor.M

namespace Go.Proofs.YtbdajagcinfeeaaDoor.M
open Go
noncomputable section
set_option maxRecDepth 100000
set_option maxHeartbeats 0
noncomputable def sha_Padded_T : Tbl := [(83, [], sha_high_c)]
noncomputable def sha_Padded_C : CfgW := mkC Tryd.prog theG sha_Padded_T 35 0 false
def sha_Padded_lv : Nat → List Nat := fun i => []
noncomputable abbrev sha_Padded_b : Code := Tryd.f81.body.getD .skip
noncomputable abbrev sha_Padded_r : List ResultVar := Tryd.f81.results.toList
def sha_Padded_hs : List Nat := []

def sha_Padded_enc (r : List UInt8) : CallOut := ⟨.o 60000, [(60000, .row (.s .u8 r) false)], true, []⟩
theorem sha_Padded_e (b : List UInt8) (Q : CallOut → Prop) : evalFnP sha_Padded_C sha_Padded_lv sha_Padded_r sha_Padded_hs sha_Padded_b [.pv (.sl .u8 b)] [] Q =
    (((64 : Int) ≠ (0 : Int)) ∧ (((64 : Int) ≠ (0 : Int)) ∧ ((((0 : Int) ≤ (0 : Int)) ∧ (((0 : Int) ≤ (w64 ((w64 ((w64 ((((List.length b) : Nat) : Int) + (1 : Int))) + (Int.tmod (w64 ((w64 ((56 : Int) - (Int.tmod (w64 ((((List.length b) : Nat) : Int) + (1 : Int))) (64 : Int)))) + (64 : Int))) (64 : Int)))) + (8 : Int)))) ∧ ((((w64 ((w64 ((w64 ((((List.length b) : Nat) : Int) + (1 : Int))) + (Int.tmod (w64 ((w64 ((56 : Int) - (Int.tmod (w64 ((((List.length b) : Nat) : Int) + (1 : Int))) (64 : Int)))) + (64 : Int))) (64 : Int)))) + (8 : Int))) * (((1 : Nat) : Nat) : Int)) ≤ (((70368744177664 : Nat) : Nat) : Int)) ∧ ((w64 ((w64 ((w64 ((((List.length b) : Nat) : Int) + (1 : Int))) + (Int.tmod (w64 ((w64 ((56 : Int) - (Int.tmod (w64 ((((List.length b) : Nat) : Int) + (1 : Int))) (64 : Int)))) + (64 : Int))) (64 : Int)))) + (8 : Int))) ≤ ((2 : Int) ^ (62 : Nat)))))) ∧ (((((List.length ((List.replicate (0 : Nat) (0 : UInt8)) ++ b)) * (1 : Nat)) ≤ (70368744177664 : Nat)) ∧ ((List.length ((List.replicate (0 : Nat) (0 : UInt8)) ++ b)) ≤ (70368744177664 : Nat))) ∧ (((((List.length (((List.replicate (0 : Nat) (0 : UInt8)) ++ b) ++ ([(128 : UInt8)] : List UInt8))) * (1 : Nat)) ≤ (70368744177664 : Nat)) ∧ ((List.length (((List.replicate (0 : Nat) (0 : UInt8)) ++ b) ++ ([(128 : UInt8)] : List UInt8))) ≤ (70368744177664 : Nat))) ∧ (((((0 : Int) ≤ (Int.tmod (w64 ((w64 ((56 : Int) - (Int.tmod (w64 ((((List.length b) : Nat) : Int) + (1 : Int))) (64 : Int)))) + (64 : Int))) (64 : Int))) ∧ ((Int.tmod (w64 ((w64 ((56 : Int) - (Int.tmod (w64 ((((List.length b) : Nat) : Int) + (1 : Int))) (64 : Int)))) + (64 : Int))) (64 : Int)) ≤ ((2 : Int) ^ (62 : Nat)))) ∧ ((((List.length ((((List.replicate (0 : Nat) (0 : UInt8)) ++ b) ++ ([(128 : UInt8)] : List UInt8)) ++ (List.replicate (Int.toNat (Int.tmod (w64 ((w64 ((56 : Int) - (Int.tmod (w64 ((((List.length b) : Nat) : Int) + (1 : Int))) (64 : Int)))) + (64 : Int))) (64 : Int))) (0 : UInt8)))) * (1 : Nat)) ≤ (70368744177664 : Nat)) ∧ ((List.length ((((List.replicate (0 : Nat) (0 : UInt8)) ++ b) ++ ([(128 : UInt8)] : List UInt8)) ++ (List.replicate (Int.toNat (Int.tmod (w64 ((w64 ((56 : Int) - (Int.tmod (w64 ((((List.length b) : Nat) : Int) + (1 : Int))) (64 : Int)))) + (64 : Int))) (64 : Int))) (0 : UInt8)))) ≤ (70368744177664 : Nat)))) ∧ ((((0 : Int) ≤ (8 : Int)) ∧ ((8 : Int) ≤ (64 : Int))) ∧ (((((List.length (((((List.replicate (0 : Nat) (0 : UInt8)) ++ b) ++ ([(128 : UInt8)] : List UInt8)) ++ (List.replicate (Int.toNat (Int.tmod (w64 ((w64 ((56 : Int) - (Int.tmod (w64 ((((List.length b) : Nat) : Int) + (1 : Int))) (64 : Int)))) + (64 : Int))) (64 : Int))) (0 : UInt8))) ++ (shaHigh (shl_u64 (UInt64.ofInt (((List.length b) : Nat) : Int)) (3 : Nat)) (8 : Nat)))) * (1 : Nat)) ≤ (70368744177664 : Nat)) ∧ ((List.length (((((List.replicate (0 : Nat) (0 : UInt8)) ++ b) ++ ([(128 : UInt8)] : List UInt8)) ++ (List.replicate (Int.toNat (Int.tmod (w64 ((w64 ((56 : Int) - (Int.tmod (w64 ((((List.length b) : Nat) : Int) + (1 : Int))) (64 : Int)))) + (64 : Int))) (64 : Int))) (0 : UInt8))) ++ (shaHigh (shl_u64 (UInt64.ofInt (((List.length b) : Nat) : Int)) (3 : Nat)) (8 : Nat)))) ≤ (70368744177664 : Nat))) ∧ (Q (sha_Padded_enc (((((List.replicate (0 : Nat) (0 : UInt8)) ++ b) ++ ([(128 : UInt8)] : List UInt8)) ++ (List.replicate (Int.toNat (Int.tmod (w64 ((w64 ((56 : Int) - (Int.tmod (w64 ((((List.length b) : Nat) : Int) + (1 : Int))) (64 : Int)))) + (64 : Int))) (64 : Int))) (0 : UInt8))) ++ (shaHigh (shl_u64 (UInt64.ofInt (((List.length b) : Nat) : Int)) (3 : Nat)) (8 : Nat))))))))))))) := by kernel_rfl
theorem sha_Padded_w (b : List UInt8) {r} {Q : CallOut → Prop} (h : sha_Padded b = some r) (hQ : Q (sha_Padded_enc r)) : evalFnP sha_Padded_C sha_Padded_lv sha_Padded_r sha_Padded_hs sha_Padded_b [.pv (.sl .u8 b)] [] Q :=
  Eq.mpr (sha_Padded_e b Q) (have h := (sha_Padded_q b).symm.trans h; ⟨by decide +kernel, ⟨by decide +kernel, ite_ok h fun hc0 h => ite_ok h fun hc1 h => ite_ok h fun hc2 h => ite_ok h fun hc3 h => ⟨by decide +kernel, ite_ok h fun hc4 h => ret_ok (Q := Q) (e := sha_Padded_enc) h hQ⟩⟩⟩)
def sha_Padded_c : Ans
  | [.pv (.sl .u8 b)], [] => some (some (b.length ≤ 1099511627776), sha_Padded_enc (shaPad b))
  | _, _ => none
theorem sha_Padded_tok : TblOK Tryd.prog theG sha_Padded_T := .cons ⟨by kernel_rfl, sha_high_ok⟩ (.nil)
theorem sha_Padded_ok : FnOK Tryd.prog theG 81 (unW sha_Padded_c) := by
  refine FnOK.ofC (T := sha_Padded_T) (nt := 35) (np := 0) (mv := []) (nf := false) (hs := sha_Padded_hs) (fn := Tryd.f81) (body := sha_Padded_b) sha_Padded_tok (by kernel_rfl) (by kernel_rfl) (by kernel_rfl) (by kernel_rfl) (c := sha_Padded_c) (lv := sha_Padded_lv) ?_
  intro xs mem p out h hp
  unfold sha_Padded_c at h
  split at h
  · cases h
    exact sha_Padded_w _ (sha_Padded_spec _ hp) rfl
  · cases h
end
end Go.Proofs.YtbdajagcinfeeaaDoor.M

namespace Go.Proofs.YtbdajagcinfeeaaDoor.M
open Go
noncomputable section
set_option maxRecDepth 100000
set_option maxHeartbeats 0
noncomputable def sha_turn_T : Tbl := [(91, [], bits_RotateLeft32_c)]
noncomputable def sha_turn_C : CfgW := mkC Tryd.prog theG sha_turn_T 9 0 false
def sha_turn_lv : Nat → List Nat := fun i => []
noncomputable abbrev sha_turn_b : Code := Tryd.f89.body.getD .skip
noncomputable abbrev sha_turn_r : List ResultVar := Tryd.f89.results.toList
def sha_turn_hs : List Nat := []

def sha_turn_enc (r : UInt32) : CallOut := ⟨.pv (.sc .u32 r), [], true, []⟩
theorem sha_turn_e (x_0 : UInt32) (n : Int) (Q : CallOut → Prop) : evalFnP sha_turn_C sha_turn_lv sha_turn_r sha_turn_hs sha_turn_b [.pv (.sc .u32 x_0), .pv (.sc .i n)] [] Q =
    (Q (sha_turn_enc (bits_RotateLeft32 x_0 (w64 ((0 : Int) - n))))) := by kernel_rfl
theorem sha_turn_w (x_0 : UInt32) (n : Int) {Q : CallOut → Prop} (h : Q (sha_turn_enc (sha_turn x_0 n))) : evalFnP sha_turn_C sha_turn_lv sha_turn_r sha_turn_hs sha_turn_b [.pv (.sc .u32 x_0), .pv (.sc .i n)] [] Q :=
  Eq.mpr (sha_turn_e x_0 n Q) (have h := Eq.mp (congrArg (fun r => Q (sha_turn_enc r)) (sha_turn_q x_0 n)) h; h)
def sha_turn_c : Ans
  | [.pv (.sc .u32 x_0), .pv (.sc .i n)], [] => some (none, sha_turn_enc (sha_turn x_0 n))
  | _, _ => none
theorem sha_turn_tok : TblOK Tryd.prog theG sha_turn_T := .cons ⟨by kernel_rfl, bits_RotateLeft32_ok⟩ (.nil)
theorem sha_turn_ok : FnOK Tryd.prog theG 89 (unW sha_turn_c) := by
  refine FnOK.ofC (T := sha_turn_T) (nt := 9) (np := 0) (mv := []) (nf := false) (hs := sha_turn_hs) (fn := Tryd.f89) (body := sha_turn_b) sha_turn_tok (by kernel_rfl) (by kernel_rfl) (by kernel_rfl) (by kernel_rfl) (c := sha_turn_c) (lv := sha_turn_lv) ?_
  intro xs mem p out h hp
  unfold sha_turn_c at h
  split at h
  · cases h
    exact sha_turn_w _ _ rfl
  · cases h
end
end Go.Proofs.YtbdajagcinfeeaaDoor.M

namespace Go.Proofs.YtbdajagcinfeeaaDoor.M
open Go
noncomputable section
set_option maxRecDepth 100000
set_option maxHeartbeats 0
noncomputable def sha_Round_T : Tbl := [(89, [], sha_turn_c)]
noncomputable def sha_Round_C : CfgW := mkC Tryd.prog theG sha_Round_T 188 0 false
def sha_Round_lv : Nat → List Nat := fun i => bif Nat.beq i 6 then [2, 4, 175, 176] else bif Nat.beq i 4 then [2, 4, 5, 11, 12, 13, 14, 15, 16, 17, 18, 104] else bif Nat.beq i 2 then [2, 3, 4, 5, 6, 24, 34, 35, 36] else bif Nat.beq i 0 then [2, 3, 4, 5, 24] else []
noncomputable abbrev sha_Round_b : Code := Tryd.f82.body.getD .skip
noncomputable abbrev sha_Round_r : List ResultVar := Tryd.f82.results.toList
def sha_Round_hs : List Nat := []

def sha_Round_enc (r : Vector UInt32 8) : CallOut := ⟨.pv (.arr .u32 8 r), [], true, []⟩
def sha_Round_s0 (t24 : Int) (s : Vector UInt32 8) (b : Vector UInt8 64) (t4 : Vector UInt32 8) (w : Vector UInt32 64) : St := ⟨[(2, .p 60000 []), (3, .p 60001 []), (4, .p 60002 []), (5, .p 60003 []), (24, .pv (.sc .i t24))], [(60000, .box (.pv (.arr .u32 8 s))), (60001, .box (.pv (.arr .u8 64 b))), (60002, .box (.pv (.arr .u32 8 t4))), (60003, .box (.pv (.arr .u32 64 w)))]⟩
def sha_Round_s2 (i : Int) (t24 : Int) (t34 : Nat) (t341 : Nat) (t342 : Nat) (t35 : Int) (t36 : Int) (s : Vector UInt32 8) (b : Vector UInt8 64) (t4 : Vector UInt32 8) (w : Vector UInt32 64) : St := ⟨[(2, .p 60000 []), (3, .p 60001 []), (4, .p 60002 []), (5, .p 60003 []), (6, .pv (.sc .i i)), (24, .pv (.sc .i t24)), (34, .vw 60001 [] t34 t341 (some t342)), (35, .pv (.sc .i t35)), (36, .pv (.sc .i t36))], [(60000, .box (.pv (.arr .u32 8 s))), (60001, .box (.pv (.arr .u8 64 b))), (60002, .box (.pv (.arr .u32 8 t4))), (60003, .box (.pv (.arr .u32 64 w)))]⟩
def sha_Round_s4 (a : UInt32) (bb : UInt32) (c : UInt32) (d : UInt32) (e : UInt32) (f : UInt32) (g : UInt32) (h_ : UInt32) (t104 : Int) (s : Vector UInt32 8) (t4 : Vector UInt32 8) (w : Vector UInt32 64) : St := ⟨[(2, .p 60000 []), (4, .p 60001 []), (5, .p 60002 []), (11, .pv (.sc .u32 a)), (12, .pv (.sc .u32 bb)), (13, .pv (.sc .u32 c)), (14, .pv (.sc .u32 d)), (15, .pv (.sc .u32 e)), (16, .pv (.sc .u32 f)), (17, .pv (.sc .u32 g)), (18, .pv (.sc .u32 h_)), (104, .pv (.sc .i t104))], [(60000, .box (.pv (.arr .u32 8 s))), (60001, .box (.pv (.arr .u32 8 t4))), (60002, .box (.pv (.arr .u32 64 w)))]⟩
def sha_Round_s6 (t175 : Vector UInt32 8) (t176 : Int) (s : Vector UInt32 8) (t4 : Vector UInt32 8) : St := ⟨[(2, .p 60000 []), (4, .p 60001 []), (175, .pv (.arr .u32 8 t175)), (176, .pv (.sc .i t176))], [(60000, .box (.pv (.arr .u32 8 s))), (60001, .box (.pv (.arr .u32 8 t4)))]⟩
theorem sha_Round_g0 (t24 : Int) (s : Vector UInt32 8) (b : Vector UInt8 64) (t4 : Vector UInt32 8) (w : Vector UInt32 64) (Q : CallOut → Prop) : headRound sha_Round_C sha_Round_lv [true, true, false, true, false] sha_Round_b (sha_Round_s0 t24 s b t4 w) (fnK sha_Round_C sha_Round_r sha_Round_hs Q) =
    (condP (decide (t24 < (64 : Int))) (condP (decide (t24 < (16 : Int))) ((((0 : Int) ≤ (w64 ((4 : Int) * t24))) ∧ (((w64 ((4 : Int) * t24)) ≤ (w64 ((w64 ((4 : Int) * t24)) + (4 : Int)))) ∧ ((w64 ((w64 ((4 : Int) * t24)) + (4 : Int))) ≤ (((64 : Nat) : Nat) : Int)))) ∧ (headP sha_Round_C sha_Round_lv [true, true, false, true, false, false, true, true, false, false, true, false, true, false, false, true, false] sha_Round_b (sha_Round_s2 t24 t24 (Int.toNat (w64 ((4 : Int) * t24))) ((Int.toNat (w64 ((w64 ((4 : Int) * t24)) + (4 : Int)))) - (Int.toNat (w64 ((4 : Int) * t24)))) ((64 : Nat) - (Int.toNat (w64 ((4 : Int) * t24)))) ((((Int.toNat (w64 ((w64 ((4 : Int) * t24)) + (4 : Int)))) - (Int.toNat (w64 ((4 : Int) * t24)))) : Nat) : Int) (0 : Int) s b t4 w) (fnK sha_Round_C sha_Round_r sha_Round_hs Q))) ((((0 : Int) ≤ (w64 (t24 - (15 : Int)))) ∧ ((w64 (t24 - (15 : Int))) < (64 : Int))) ∧ ((((0 : Int) ≤ (w64 (t24 - (2 : Int)))) ∧ ((w64 (t24 - (2 : Int))) < (64 : Int))) ∧ ((((0 : Int) ≤ (w64 (t24 - (16 : Int)))) ∧ ((w64 (t24 - (16 : Int))) < (64 : Int))) ∧ ((((0 : Int) ≤ (w64 (t24 - (7 : Int)))) ∧ ((w64 (t24 - (7 : Int))) < (64 : Int))) ∧ ((((0 : Int) ≤ t24) ∧ (t24 < (64 : Int))) ∧ (headP sha_Round_C sha_Round_lv [true, true, false, true, false] sha_Round_b (sha_Round_s0 (w64 (t24 + (1 : Int))) s b t4 (Vector.setIfInBounds w (Int.toNat t24) ((((List.getD (Vector.toList w) (Int.toNat (w64 (t24 - (16 : Int)))) (0 : UInt32)) + (List.getD (Vector.toList w) (Int.toNat (w64 (t24 - (7 : Int)))) (0 : UInt32))) + (((sha_turn (List.getD (Vector.toList w) (Int.toNat (w64 (t24 - (15 : Int)))) (0 : UInt32)) (7 : Int)) ^^^ (sha_turn (List.getD (Vector.toList w) (Int.toNat (w64 (t24 - (15 : Int)))) (0 : UInt32)) (18 : Int))) ^^^ (shr_u32 (List.getD (Vector.toList w) (Int.toNat (w64 (t24 - (15 : Int)))) (0 : UInt32)) (3 : Nat)))) + (((sha_turn (List.getD (Vector.toList w) (Int.toNat (w64 (t24 - (2 : Int)))) (0 : UInt32)) (17 : Int)) ^^^ (sha_turn (List.getD (Vector.toList w) (Int.toNat (w64 (t24 - (2 : Int)))) (0 : UInt32)) (19 : Int))) ^^^ (shr_u32 (List.getD (Vector.toList w) (Int.toNat (w64 (t24 - (2 : Int)))) (0 : UInt32)) (10 : Nat)))))) (fnK sha_Round_C sha_Round_r sha_Round_hs Q)))))))) ((((0 : Int) ≤ (0 : Int)) ∧ ((0 : Int) < (8 : Int))) ∧ ((((0 : Int) ≤ (1 : Int)) ∧ ((1 : Int) < (8 : Int))) ∧ ((((0 : Int) ≤ (2 : Int)) ∧ ((2 : Int) < (8 : Int))) ∧ ((((0 : Int) ≤ (3 : Int)) ∧ ((3 : Int) < (8 : Int))) ∧ ((((0 : Int) ≤ (4 : Int)) ∧ ((4 : Int) < (8 : Int))) ∧ ((((0 : Int) ≤ (5 : Int)) ∧ ((5 : Int) < (8 : Int))) ∧ ((((0 : Int) ≤ (6 : Int)) ∧ ((6 : Int) < (8 : Int))) ∧ ((((0 : Int) ≤ (7 : Int)) ∧ ((7 : Int) < (8 : Int))) ∧ (headP sha_Round_C sha_Round_lv [true, true, true, true, false, true, false] sha_Round_b (sha_Round_s4 (List.getD (Vector.toList s) (0 : Nat) (0 : UInt32)) (List.getD (Vector.toList s) (1 : Nat) (0 : UInt32)) (List.getD (Vector.toList s) (2 : Nat) (0 : UInt32)) (List.getD (Vector.toList s) (3 : Nat) (0 : UInt32)) (List.getD (Vector.toList s) (4 : Nat) (0 : UInt32)) (List.getD (Vector.toList s) (5 : Nat) (0 : UInt32)) (List.getD (Vector.toList s) (6 : Nat) (0 : UInt32)) (List.getD (Vector.toList s) (7 : Nat) (0 : UInt32)) (0 : Int) s t4 w) (fnK sha_Round_C sha_Round_r sha_Round_hs Q))))))))))) := by kernel_rfl
theorem sha_Round_g2 (i : Int) (t24 : Int) (t34 : Nat) (t341 : Nat) (t342 : Nat) (t35 : Int) (t36 : Int) (s : Vector UInt32 8) (b : Vector UInt8 64) (t4 : Vector UInt32 8) (w : Vector UInt32 64) (Q : CallOut → Prop) : headRound sha_Round_C sha_Round_lv [true, true, false, true, false, false, true, true, false, false, true, false, true, false, false, true, false] sha_Round_b (sha_Round_s2 i t24 t34 t341 t342 t35 t36 s b t4 w) (fnK sha_Round_C sha_Round_r sha_Round_hs Q) =
    (condP (decide (t36 < t35)) ((((0 : Int) ≤ t36) ∧ (t36 < ((t341 : Nat) : Int))) ∧ ((((0 : Int) ≤ i) ∧ (i < (64 : Int))) ∧ ((((0 : Int) ≤ i) ∧ (i < (64 : Int))) ∧ (headP sha_Round_C sha_Round_lv [true, true, false, true, false, false, true, true, false, false, true, false, true, false, false, true, false] sha_Round_b (sha_Round_s2 i t24 t34 t341 t342 t35 (w64 (t36 + (1 : Int))) s b t4 (Vector.setIfInBounds w (Int.toNat i) ((shl_u32 (List.getD (Vector.toList w) (Int.toNat i) (0 : UInt32)) (8 : Nat)) ||| (UInt8.toUInt32 (List.getD (Vector.toList b) (t34 + (Int.toNat t36)) (0 : UInt8)))))) (fnK sha_Round_C sha_Round_r sha_Round_hs Q))))) (headP sha_Round_C sha_Round_lv [true, true, false, true, false] sha_Round_b (sha_Round_s0 (w64 (t24 + (1 : Int))) s b t4 w) (fnK sha_Round_C sha_Round_r sha_Round_hs Q))) := by kernel_rfl
theorem sha_Round_g4 (a : UInt32) (bb : UInt32) (c : UInt32) (d : UInt32) (e : UInt32) (f : UInt32) (g : UInt32) (h_ : UInt32) (t104 : Int) (s : Vector UInt32 8) (t4 : Vector UInt32 8) (w : Vector UInt32 64) (Q : CallOut → Prop) : headRound sha_Round_C sha_Round_lv [true, true, true, true, false, true, false] sha_Round_b (sha_Round_s4 a bb c d e f g h_ t104 s t4 w) (fnK sha_Round_C sha_Round_r sha_Round_hs Q) =
    (condP (decide (t104 < (64 : Int))) ((((0 : Int) ≤ t104) ∧ (t104 < (64 : Int))) ∧ ((((0 : Int) ≤ t104) ∧ (t104 < (64 : Int))) ∧ (headP sha_Round_C sha_Round_lv [true, true, true, true, false, true, false] sha_Round_b (sha_Round_s4 (((((h_ + (((sha_turn e (6 : Int)) ^^^ (sha_turn e (11 : Int))) ^^^ (sha_turn e (25 : Int)))) + ((e &&& f) ^^^ ((~~~e) &&& g))) + (List.getD (Vector.toList shaK) (Int.toNat t104) (0 : UInt32))) + (List.getD (Vector.toList w) (Int.toNat t104) (0 : UInt32))) + ((((sha_turn a (2 : Int)) ^^^ (sha_turn a (13 : Int))) ^^^ (sha_turn a (22 : Int))) + (((a &&& bb) ^^^ (a &&& c)) ^^^ (bb &&& c)))) a bb c (d + ((((h_ + (((sha_turn e (6 : Int)) ^^^ (sha_turn e (11 : Int))) ^^^ (sha_turn e (25 : Int)))) + ((e &&& f) ^^^ ((~~~e) &&& g))) + (List.getD (Vector.toList shaK) (Int.toNat t104) (0 : UInt32))) + (List.getD (Vector.toList w) (Int.toNat t104) (0 : UInt32)))) e f g (w64 (t104 + (1 : Int))) s t4 w) (fnK sha_Round_C sha_Round_r sha_Round_hs Q)))) (headP sha_Round_C sha_Round_lv [true, true, true, true, true, false, true, false] sha_Round_b (sha_Round_s6 (Vector.setIfInBounds (Vector.setIfInBounds (Vector.setIfInBounds (Vector.setIfInBounds (Vector.setIfInBounds (Vector.setIfInBounds (Vector.setIfInBounds (Vector.setIfInBounds (Vector.replicate (8 : Nat) (0 : UInt32)) (0 : Nat) a) (1 : Nat) bb) (2 : Nat) c) (3 : Nat) d) (4 : Nat) e) (5 : Nat) f) (6 : Nat) g) (7 : Nat) h_) (0 : Int) s t4) (fnK sha_Round_C sha_Round_r sha_Round_hs Q))) := by kernel_rfl
theorem sha_Round_g6 (t175 : Vector UInt32 8) (t176 : Int) (s : Vector UInt32 8) (t4 : Vector UInt32 8) (Q : CallOut → Prop) : headRound sha_Round_C sha_Round_lv [true, true, true, true, true, false, true, false] sha_Round_b (sha_Round_s6 t175 t176 s t4) (fnK sha_Round_C sha_Round_r sha_Round_hs Q) =
    (condP (decide (t176 < (8 : Int))) ((((0 : Int) ≤ t176) ∧ (t176 < (8 : Int))) ∧ ((((0 : Int) ≤ t176) ∧ (t176 < (8 : Int))) ∧ ((((0 : Int) ≤ t176) ∧ (t176 < (8 : Int))) ∧ (headP sha_Round_C sha_Round_lv [true, true, true, true, true, false, true, false] sha_Round_b (sha_Round_s6 t175 (w64 (t176 + (1 : Int))) (Vector.setIfInBounds s (Int.toNat t176) ((List.getD (Vector.toList s) (Int.toNat t176) (0 : UInt32)) + (List.getD (Vector.toList t175) (Int.toNat t176) (0 : UInt32)))) t4) (fnK sha_Round_C sha_Round_r sha_Round_hs Q))))) (Q (sha_Round_enc s))) := by kernel_rfl
theorem sha_Round_k6 {r : Vector UInt32 8} {Q : CallOut → Prop} (hQ : Q (sha_Round_enc r)) : ∀ k : Nat, (∀ (t175 : Vector UInt32 8) (t176 : Int) (s : Vector UInt32 8) (t4 : Vector UInt32 8), sha_Round_h6 k t175 t176 s t4 = some r → headP sha_Round_C sha_Round_lv [true, true, true, true, true, false, true, false] sha_Round_b (sha_Round_s6 t175 t176 s t4) (fnK sha_Round_C sha_Round_r sha_Round_hs Q))
  | 0 => fun _ _ _ _ h => no_ok h
  | k + 1 => fun t175 t176 s t4 h => headP_step (Eq.mpr (sha_Round_g6 t175 t176 s t4 Q) (have h := (sha_Round_h6_q k t175 t176 s t4).symm.trans h; cond_ok h (fun h => ite_ok h fun hc0 h => ⟨hc0, ⟨hc0, (sha_Round_k6 hQ k) _ _ _ _ h⟩⟩) (fun h => ret_ok (Q := Q) (e := sha_Round_enc) h hQ)))
theorem sha_Round_k4 {r : Vector UInt32 8} {Q : CallOut → Prop} (hQ : Q (sha_Round_enc r)) : ∀ k : Nat, (∀ (a : UInt32) (bb : UInt32) (c : UInt32) (d : UInt32) (e : UInt32) (f : UInt32) (g : UInt32) (h_ : UInt32) (t104 : Int) (s : Vector UInt32 8) (t4 : Vector UInt32 8) (w : Vector UInt32 64), sha_Round_h4 k a bb c d e f g h_ t104 s t4 w = some r → headP sha_Round_C sha_Round_lv [true, true, true, true, false, true, false] sha_Round_b (sha_Round_s4 a bb c d e f g h_ t104 s t4 w) (fnK sha_Round_C sha_Round_r sha_Round_hs Q))
  | 0 => fun _ _ _ _ _ _ _ _ _ _ _ _ h => no_ok h
  | k + 1 => fun a bb c d e f g h_ t104 s t4 w h => headP_step (Eq.mpr (sha_Round_g4 a bb c d e f g h_ t104 s t4 w Q) (have h := (sha_Round_h4_q k a bb c d e f g h_ t104 s t4 w).symm.trans h; cond_ok h (fun h => ite_ok h fun hc0 h => ⟨hc0, (sha_Round_k4 hQ k) _ _ _ _ _ _ _ _ _ _ _ _ h⟩) (fun h => (sha_Round_k6 hQ _) _ _ _ _ h)))
theorem sha_Round_k0 {r : Vector UInt32 8} {Q : CallOut → Prop} (hQ : Q (sha_Round_enc r)) : ∀ k : Nat, (∀ (t24 : Int) (s : Vector UInt32 8) (b : Vector UInt8 64) (t4 : Vector UInt32 8) (w : Vector UInt32 64), sha_Round_h0 k t24 s b t4 w = some r → headP sha_Round_C sha_Round_lv [true, true, false, true, false] sha_Round_b (sha_Round_s0 t24 s b t4 w) (fnK sha_Round_C sha_Round_r sha_Round_hs Q)) ∧ (∀ (i : Int) (t24 : Int) (t34 : Nat) (t341 : Nat) (t342 : Nat) (t35 : Int) (t36 : Int) (s : Vector UInt32 8) (b : Vector UInt8 64) (t4 : Vector UInt32 8) (w : Vector UInt32 64), sha_Round_h2 k i t24 t34 t341 t342 t35 t36 s b t4 w = some r → headP sha_Round_C sha_Round_lv [true, true, false, true, false, false, true, true, false, false, true, false, true, false, false, true, false] sha_Round_b (sha_Round_s2 i t24 t34 t341 t342 t35 t36 s b t4 w) (fnK sha_Round_C sha_Round_r sha_Round_hs Q))
  | 0 => ⟨fun _ _ _ _ _ h => no_ok h, fun _ _ _ _ _ _ _ _ _ _ _ h => no_ok h⟩
  | k + 1 => ⟨fun t24 s b t4 w h => headP_step (Eq.mpr (sha_Round_g0 t24 s b t4 w Q) (have h := (sha_Round_h0_q k t24 s b t4 w).symm.trans h; cond_ok h (fun h => cond_ok h (fun h => ite_ok h fun hc0 h => (sha_Round_k0 hQ k).2 _ _ _ _ _ _ _ _ _ _ _ h) (fun h => ite_ok h fun hc0 h => ite_ok h fun hc1 h => ite_ok h fun hc2 h => ite_ok h fun hc3 h => ite_ok h fun hc4 h => (sha_Round_k0 hQ k).1 _ _ _ _ _ h)) (fun h => ⟨by decide +kernel, ⟨by decide +kernel, ⟨by decide +kernel, ⟨by decide +kernel, ⟨by decide +kernel, ⟨by decide +kernel, ⟨by decide +kernel, ⟨by decide +kernel, (sha_Round_k4 hQ _) _ _ _ _ _ _ _ _ _ _ _ _ h⟩⟩⟩⟩⟩⟩⟩⟩))),
    fun i t24 t34 t341 t342 t35 t36 s b t4 w h => headP_step (Eq.mpr (sha_Round_g2 i t24 t34 t341 t342 t35 t36 s b t4 w Q) (have h := (sha_Round_h2_q k i t24 t34 t341 t342 t35 t36 s b t4 w).symm.trans h; cond_ok h (fun h => ite_ok h fun hc0 h => ite_ok h fun hc1 h => ⟨hc1, (sha_Round_k0 hQ k).2 _ _ _ _ _ _ _ _ _ _ _ h⟩) (fun h => (sha_Round_k0 hQ k).1 _ _ _ _ _ h)))⟩
theorem sha_Round_e (s : Vector UInt32 8) (b : Vector UInt8 64) (Q : CallOut → Prop) : evalFnP sha_Round_C sha_Round_lv sha_Round_r sha_Round_hs sha_Round_b [.pv (.arr .u32 8 s), .pv (.arr .u8 64 b)] [] Q =
    (headP sha_Round_C sha_Round_lv [true, true, false, true, false] sha_Round_b (sha_Round_s0 (0 : Int) s b (Vector.replicate (8 : Nat) (0 : UInt32)) (Vector.replicate (64 : Nat) (0 : UInt32))) (fnK sha_Round_C sha_Round_r sha_Round_hs Q)) := by kernel_rfl
theorem sha_Round_w {k : Nat} (s : Vector UInt32 8) (b : Vector UInt8 64) {r} {Q : CallOut → Prop} (h : sha_Round k s b = some r) (hQ : Q (sha_Round_enc r)) : evalFnP sha_Round_C sha_Round_lv sha_Round_r sha_Round_hs sha_Round_b [.pv (.arr .u32 8 s), .pv (.arr .u8 64 b)] [] Q :=
  Eq.mpr (sha_Round_e s b Q) (have h := (sha_Round_q k s b).symm.trans h; (sha_Round_k0 hQ _).1 _ _ _ _ _ h)
def sha_Round_c : Ans
  | [.pv (.arr .u32 8 s), .pv (.arr .u8 64 b)], [] => some (none, sha_Round_enc (shaRound shaK s (fun i => List.getD (Vector.toList b) i 0)))
  | _, _ => none
theorem sha_Round_tok : TblOK Tryd.prog theG sha_Round_T := .cons ⟨by kernel_rfl, sha_turn_ok⟩ (.nil)
theorem sha_Round_ok : FnOK Tryd.prog theG 82 (unW sha_Round_c) := by
  refine FnOK.ofC (T := sha_Round_T) (nt := 188) (np := 0) (mv := []) (nf := false) (hs := sha_Round_hs) (fn := Tryd.f82) (body := sha_Round_b) sha_Round_tok (by kernel_rfl) (by kernel_rfl) (by kernel_rfl) (by kernel_rfl) (c := sha_Round_c) (lv := sha_Round_lv) ?_
  intro xs mem p out h hp
  unfold sha_Round_c at h
  split at h
  · cases h
    obtain ⟨k, hk⟩ := sha_Round_spec _ _
    exact sha_Round_w _ _ hk rfl
  · cases h
end
end Go.Proofs.YtbdajagcinfeeaaDoor.M

namespace Go.Proofs.YtbdajagcinfeeaaDoor.M
open Go
noncomputable section
set_option maxRecDepth 100000
set_option maxHeartbeats 0
noncomputable def sha_Sum_T : Tbl := [(80, [], sha_Begin_c), (81, [], sha_Padded_c), (82, [], sha_Round_c), (83, [], sha_high_c)]
noncomputable def sha_Sum_C : CfgW := mkC Tryd.prog theG sha_Sum_T 41 0 false
def sha_Sum_lv : Nat → List Nat := fun i => bif Nat.beq i 2 then [2, 6, 27, 28] else bif Nat.beq i 0 then [2, 3, 4, 5] else []
noncomputable abbrev sha_Sum_b : Code := Tryd.f62.body.getD .skip
noncomputable abbrev sha_Sum_r : List ResultVar := Tryd.f62.results.toList
def sha_Sum_hs : List Nat := []

def sha_Sum_enc (r : Vector UInt8 32) : CallOut := ⟨.pv (.arr .u8 32 r), [], true, []⟩
def sha_Sum_s0 (i : Int) (t2 : Vector UInt8 32) (s : Vector UInt32 8) (p : List UInt8) : St := ⟨[(2, .p 60000 []), (3, .p 60001 []), (4, .o 60002), (5, .pv (.sc .i i))], [(60000, .box (.pv (.arr .u8 32 t2))), (60001, .box (.pv (.arr .u32 8 s))), (60002, .row (.s .u8 p) false)]⟩
def sha_Sum_s2 (t27 : Vector UInt32 8) (t28 : Int) (t2 : Vector UInt8 32) (out : Vector UInt8 32) : St := ⟨[(2, .p 60000 []), (6, .p 60001 []), (27, .pv (.arr .u32 8 t27)), (28, .pv (.sc .i t28))], [(60000, .box (.pv (.arr .u8 32 t2))), (60001, .box (.pv (.arr .u8 32 out)))]⟩
theorem sha_Sum_g0 (i : Int) (t2 : Vector UInt8 32) (s : Vector UInt32 8) (p : List UInt8) (Q : CallOut → Prop) : headRound sha_Sum_C sha_Sum_lv [true, true, true, false, true, false] sha_Sum_b (sha_Sum_s0 i t2 s p) (fnK sha_Sum_C sha_Sum_r sha_Sum_hs Q) =
    (condP (decide (i < (((List.length p) : Nat) : Int))) ((((0 : Int) ≤ i) ∧ ((i ≤ (w64 (i + (64 : Int)))) ∧ ((w64 (i + (64 : Int))) ≤ (((List.length p) : Nat) : Int)))) ∧ ((((64 : Nat) ≤ ((Int.toNat (w64 (i + (64 : Int)))) - (Int.toNat i))) ∧ ((0 : Nat) < (64 : Nat))) ∧ (headP sha_Sum_C sha_Sum_lv [true, true, true, false, true, false] sha_Sum_b (sha_Sum_s0 (w64 (i + (64 : Int))) t2 (shaRound shaK s (fun (z5 : Nat) => (List.getD (Vector.toList (Vector.ofFn (fun (z6 : Fin 64) => (List.getD p ((Int.toNat i) + (Fin.val z6)) (0 : UInt8))))) z5 (0 : UInt8)))) p) (fnK sha_Sum_C sha_Sum_r sha_Sum_hs Q)))) (headP sha_Sum_C sha_Sum_lv [true, true, true, true, true, false, true, false] sha_Sum_b (sha_Sum_s2 s (0 : Int) t2 (Vector.replicate (32 : Nat) (0 : UInt8))) (fnK sha_Sum_C sha_Sum_r sha_Sum_hs Q))) := by kernel_rfl
theorem sha_Sum_g2 (t27 : Vector UInt32 8) (t28 : Int) (t2 : Vector UInt8 32) (out : Vector UInt8 32) (Q : CallOut → Prop) : headRound sha_Sum_C sha_Sum_lv [true, true, true, true, true, false, true, false] sha_Sum_b (sha_Sum_s2 t27 t28 t2 out) (fnK sha_Sum_C sha_Sum_r sha_Sum_hs Q) =
    (condP (decide (t28 < (8 : Int))) ((((0 : Int) ≤ t28) ∧ (t28 < (8 : Int))) ∧ ((((0 : Int) ≤ (w64 ((4 : Int) * t28))) ∧ (((w64 ((4 : Int) * t28)) ≤ (32 : Int)) ∧ ((32 : Int) ≤ (((32 : Nat) : Nat) : Int)))) ∧ ((((0 : Int) ≤ (4 : Int)) ∧ ((4 : Int) ≤ (64 : Int))) ∧ (headP sha_Sum_C sha_Sum_lv [true, true, true, true, true, false, true, false] sha_Sum_b (sha_Sum_s2 t27 (w64 (t28 + (1 : Int))) t2 (Vector.ofFn (fun (z5 : Fin 32) => (List.getD (overS (Int.toNat (w64 ((4 : Int) * t28))) (Min.min (List.length (shaHigh (UInt32.toUInt64 (List.getD (Vector.toList t27) (Int.toNat t28) (0 : UInt32))) (4 : Nat))) ((Int.toNat (32 : Int)) - (Int.toNat (w64 ((4 : Int) * t28))))) (Vector.toList out) (shaHigh (UInt32.toUInt64 (List.getD (Vector.toList t27) (Int.toNat t28) (0 : UInt32))) (4 : Nat))) ((0 : Nat) + (Fin.val z5)) (0 : UInt8))))) (fnK sha_Sum_C sha_Sum_r sha_Sum_hs Q))))) (Q (sha_Sum_enc out))) := by kernel_rfl
theorem sha_Sum_k2 {r : Vector UInt8 32} {Q : CallOut → Prop} (hQ : Q (sha_Sum_enc r)) : ∀ k : Nat, (∀ (t27 : Vector UInt32 8) (t28 : Int) (t2 : Vector UInt8 32) (out : Vector UInt8 32), sha_Sum_h2 k t27 t28 t2 out = some r → headP sha_Sum_C sha_Sum_lv [true, true, true, true, true, false, true, false] sha_Sum_b (sha_Sum_s2 t27 t28 t2 out) (fnK sha_Sum_C sha_Sum_r sha_Sum_hs Q))
  | 0 => fun _ _ _ _ h => no_ok h
  | k + 1 => fun t27 t28 t2 out h => headP_step (Eq.mpr (sha_Sum_g2 t27 t28 t2 out Q) (have h := (sha_Sum_h2_q k t27 t28 t2 out).symm.trans h; cond_ok h (fun h => ite_ok h fun hc0 h => ite_ok h fun hc1 h => ⟨by decide +kernel, (sha_Sum_k2 hQ k) _ _ _ _ h⟩) (fun h => ret_ok (Q := Q) (e := sha_Sum_enc) h hQ)))
theorem sha_Sum_k0 {r : Vector UInt8 32} {Q : CallOut → Prop} (hQ : Q (sha_Sum_enc r)) : ∀ k : Nat, (∀ (i : Int) (t2 : Vector UInt8 32) (s : Vector UInt32 8) (p : List UInt8), sha_Sum_h0 k i t2 s p = some r → headP sha_Sum_C sha_Sum_lv [true, true, true, false, true, false] sha_Sum_b (sha_Sum_s0 i t2 s p) (fnK sha_Sum_C sha_Sum_r sha_Sum_hs Q))
  | 0 => fun _ _ _ _ h => no_ok h
  | k + 1 => fun i t2 s p h => headP_step (Eq.mpr (sha_Sum_g0 i t2 s p Q) (have h := (sha_Sum_h0_q k i t2 s p).symm.trans h; cond_ok h (fun h => ite_ok h fun hc0 h => ite_ok h fun hc1 h => (sha_Sum_k0 hQ k) _ _ _ _ h) (fun h => (sha_Sum_k2 hQ _) _ _ _ _ h)))
theorem sha_Sum_e (b : List UInt8) (Q : CallOut → Prop) : evalFnP sha_Sum_C sha_Sum_lv sha_Sum_r sha_Sum_hs sha_Sum_b [.pv (.sl .u8 b)] [] Q =
    (((List.length b) ≤ (1099511627776 : Nat)) ∧ (headP sha_Sum_C sha_Sum_lv [true, true, true, false, true, false] sha_Sum_b (sha_Sum_s0 (0 : Int) (Vector.replicate (32 : Nat) (0 : UInt8)) sha_Begin (shaPad b)) (fnK sha_Sum_C sha_Sum_r sha_Sum_hs Q))) := by kernel_rfl
theorem sha_Sum_w {k : Nat} (b : List UInt8) {r} {Q : CallOut → Prop} (h : sha_Sum k b = some r) (hQ : Q (sha_Sum_enc r)) : evalFnP sha_Sum_C sha_Sum_lv sha_Sum_r sha_Sum_hs sha_Sum_b [.pv (.sl .u8 b)] [] Q :=
  Eq.mpr (sha_Sum_e b Q) (have h := (sha_Sum_q k b).symm.trans h; ite_ok h fun hc0 h => (sha_Sum_k0 hQ _) _ _ _ _ h)
def sha_Sum_c : Ans
  | [.pv (.sl .u8 b)], [] => some (some (b.length ≤ 1099511627776), sha_Sum_enc (shaSum b))
  | _, _ => none
theorem sha_Sum_tok : TblOK Tryd.prog theG sha_Sum_T := .cons ⟨by kernel_rfl, sha_Begin_ok⟩ (.cons ⟨by kernel_rfl, sha_Padded_ok⟩ (.cons ⟨by kernel_rfl, sha_Round_ok⟩ (.cons ⟨by kernel_rfl, sha_high_ok⟩ (.nil))))
theorem sha_Sum_ok : FnOK Tryd.prog theG 62 (unW sha_Sum_c) := by
  refine FnOK.ofC (T := sha_Sum_T) (nt := 41) (np := 0) (mv := []) (nf := false) (hs := sha_Sum_hs) (fn := Tryd.f62) (body := sha_Sum_b) sha_Sum_tok (by kernel_rfl) (by kernel_rfl) (by kernel_rfl) (by kernel_rfl) (c := sha_Sum_c) (lv := sha_Sum_lv) ?_
  intro xs mem p out h hp
  unfold sha_Sum_c at h
  split at h
  · cases h
    obtain ⟨k, hk⟩ := sha_Sum_spec _ hp
    exact sha_Sum_w _ hk rfl
  · cases h
end
end Go.Proofs.YtbdajagcinfeeaaDoor.M

namespace Go.Proofs.YtbdajagcinfeeaaDoor.M
open Go
noncomputable section
set_option maxRecDepth 100000
set_option maxHeartbeats 0
noncomputable def sha_Twice_T : Tbl := [(62, [], sha_Sum_c)]
noncomputable def sha_Twice_C : CfgW := mkC Tryd.prog theG sha_Twice_T 8 0 false
def sha_Twice_lv : Nat → List Nat := fun i => []
noncomputable abbrev sha_Twice_b : Code := Tryd.f45.body.getD .skip
noncomputable abbrev sha_Twice_r : List ResultVar := Tryd.f45.results.toList
def sha_Twice_hs : List Nat := []

def sha_Twice_enc (r : Vector UInt8 32) : CallOut := ⟨.pv (.arr .u8 32 r), [], true, []⟩
theorem sha_Twice_e (b : List UInt8) (Q : CallOut → Prop) : evalFnP sha_Twice_C sha_Twice_lv sha_Twice_r sha_Twice_hs sha_Twice_b [.pv (.sl .u8 b)] [] Q =
    (((List.length b) ≤ (1099511627776 : Nat)) ∧ ((((0 : Int) ≤ (0 : Int)) ∧ (((0 : Int) ≤ (32 : Int)) ∧ ((32 : Int) ≤ (((32 : Nat) : Nat) : Int)))) ∧ (((List.length (List.take ((Int.toNat (32 : Int)) - (Int.toNat (0 : Int))) (List.drop (Int.toNat (0 : Int)) (Vector.toList (shaSum b))))) ≤ (1099511627776 : Nat)) ∧ (Q (sha_Twice_enc (shaSum (List.take ((Int.toNat (32 : Int)) - (Int.toNat (0 : Int))) (List.drop (Int.toNat (0 : Int)) (Vector.toList (shaSum b)))))))))) := by kernel_rfl
theorem sha_Twice_w (b : List UInt8) {r} {Q : CallOut → Prop} (h : sha_Twice b = some r) (hQ : Q (sha_Twice_enc r)) : evalFnP sha_Twice_C sha_Twice_lv sha_Twice_r sha_Twice_hs sha_Twice_b [.pv (.sl .u8 b)] [] Q :=
  Eq.mpr (sha_Twice_e b Q) (have h := (sha_Twice_q b).symm.trans h; ite_ok h fun hc0 h => ⟨by decide +kernel, ite_ok h fun hc1 h => ret_ok (Q := Q) (e := sha_Twice_enc) h hQ⟩)
def sha_Twice_c : Ans
  | [.pv (.sl .u8 b)], [] => some (some (b.length ≤ 1099511627776), sha_Twice_enc (shaSum (Vector.toList (shaSum b))))
  | _, _ => none
theorem sha_Twice_tok : TblOK Tryd.prog theG sha_Twice_T := .cons ⟨by kernel_rfl, sha_Sum_ok⟩ (.nil)
theorem sha_Twice_ok : FnOK Tryd.prog theG 45 (unW sha_Twice_c) := by
  refine FnOK.ofC (T := sha_Twice_T) (nt := 8) (np := 0) (mv := []) (nf := false) (hs := sha_Twice_hs) (fn := Tryd.f45) (body := sha_Twice_b) sha_Twice_tok (by kernel_rfl) (by kernel_rfl) (by kernel_rfl) (by kernel_rfl) (c := sha_Twice_c) (lv := sha_Twice_lv) ?_
  intro xs mem p out h hp
  unfold sha_Twice_c at h
  split at h
  · cases h
    exact sha_Twice_w _ (sha_Twice_spec _ hp) rfl
  · cases h
end
end Go.Proofs.YtbdajagcinfeeaaDoor.M
