/- Part of the proofs: what functions of the program do: plain functions, and the walks that show it. No condition. -/
import Derived.KernelRfl
import Derived.Test.YtbdajagcinfeeaaDoorProg
import Derived.Test.YtbdajagcinfeeaaDoorLe
import Derived.Test.YtbdajagcinfeeaaDoorFends
import Derived.Test.YtbdajagcinfeeaaDoorSwords
import Derived.Test.YtbdajagcinfeeaaDoorSshaS
import Derived.Test.YtbdajagcinfeeaaDoorSbigS
import Derived.Test.YtbdajagcinfeeaaDoorSendS
import Derived.Test.YtbdajagcinfeeaaDoorStarS
import Derived.Test.YtbdajagcinfeeaaDoorFsha
import Derived.Test.YtbdajagcinfeeaaDoorFtarget
import Derived.Test.YtbdajagcinfeeaaDoorSshaK
set_option linter.unusedVariables false
set_option linter.unusedSimpArgs false
set_option autoImplicit false
namespace Go.Proofs.YtbdajagcinfeeaaDoor.M
open Go
noncomputable section
/-- moneyer/head.low -/
def head_low (n : UInt32) : List UInt8 :=
  (putL (UInt32.toUInt64 n) (4 : Int))
theorem head_low_q (n : UInt32) : head_low n = ((putL (UInt32.toUInt64 n) (4 : Int))) := by kernel_rfl
theorem head_low_spec (n : UInt32) : head_low n = lowY n.toNat 4 := by
  rw [head_low, putL_32]

end
end Go.Proofs.YtbdajagcinfeeaaDoor.M

namespace Go.Proofs.YtbdajagcinfeeaaDoor.M
open Go
noncomputable section
/-- the loop 0 of moneyer/head.Put -/
def head_Put_h0 : Nat → (Vector UInt32 3) → Int → (List UInt8) → Option (List UInt8)
  | 0, _, _, _ => none
  | k + 1, t20, t21, b => bif decide (t21 < (3 : Int)) then (if ((0 : Int) ≤ t21) ∧ (t21 < (3 : Int)) then
        if (((List.length (b ++ (lowY (UInt32.toNat (List.getD (Vector.toList t20) (Int.toNat t21) (0 : UInt32))) (4 : Nat)))) * (1 : Nat)) ≤ (70368744177664 : Nat)) ∧ ((List.length (b ++ (lowY (UInt32.toNat (List.getD (Vector.toList t20) (Int.toNat t21) (0 : UInt32))) (4 : Nat)))) ≤ (70368744177664 : Nat)) then
          head_Put_h0 k t20 (w64 (t21 + (1 : Int))) (b ++ (lowY (UInt32.toNat (List.getD (Vector.toList t20) (Int.toNat t21) (0 : UInt32))) (4 : Nat)))
        else none
      else none)
      else (some b)
theorem head_Put_h0_q (k : Nat) (t20 : Vector UInt32 3) (t21 : Int) (b : List UInt8) : head_Put_h0 (k + 1) t20 t21 b =
  (bif decide (t21 < (3 : Int)) then (if ((0 : Int) ≤ t21) ∧ (t21 < (3 : Int)) then
        if (((List.length (b ++ (lowY (UInt32.toNat (List.getD (Vector.toList t20) (Int.toNat t21) (0 : UInt32))) (4 : Nat)))) * (1 : Nat)) ≤ (70368744177664 : Nat)) ∧ ((List.length (b ++ (lowY (UInt32.toNat (List.getD (Vector.toList t20) (Int.toNat t21) (0 : UInt32))) (4 : Nat)))) ≤ (70368744177664 : Nat)) then
          head_Put_h0 k t20 (w64 (t21 + (1 : Int))) (b ++ (lowY (UInt32.toNat (List.getD (Vector.toList t20) (Int.toNat t21) (0 : UInt32))) (4 : Nat)))
        else none
      else none)
      else (some b)) := by kernel_rfl
/-- moneyer/head.Put -/
def head_Put (k : Nat) (h_0_Prev : Vector UInt8 32) (h_0_Root : Vector UInt8 32) (h_0_Time : UInt32) (h_0_Bits : UInt32) (h_0_Nonce : UInt32) : Option (List UInt8) :=
  if (((List.length ((List.replicate (0 : Nat) (0 : UInt8)) ++ (List.take ((Int.toNat (32 : Int)) - (Int.toNat (0 : Int))) (List.drop (Int.toNat (0 : Int)) (Vector.toList h_0_Prev))))) * (1 : Nat)) ≤ (70368744177664 : Nat)) ∧ ((List.length ((List.replicate (0 : Nat) (0 : UInt8)) ++ (List.take ((Int.toNat (32 : Int)) - (Int.toNat (0 : Int))) (List.drop (Int.toNat (0 : Int)) (Vector.toList h_0_Prev))))) ≤ (70368744177664 : Nat)) then
    if (((List.length (((List.replicate (0 : Nat) (0 : UInt8)) ++ (List.take ((Int.toNat (32 : Int)) - (Int.toNat (0 : Int))) (List.drop (Int.toNat (0 : Int)) (Vector.toList h_0_Prev)))) ++ (List.take ((Int.toNat (32 : Int)) - (Int.toNat (0 : Int))) (List.drop (Int.toNat (0 : Int)) (Vector.toList h_0_Root))))) * (1 : Nat)) ≤ (70368744177664 : Nat)) ∧ ((List.length (((List.replicate (0 : Nat) (0 : UInt8)) ++ (List.take ((Int.toNat (32 : Int)) - (Int.toNat (0 : Int))) (List.drop (Int.toNat (0 : Int)) (Vector.toList h_0_Prev)))) ++ (List.take ((Int.toNat (32 : Int)) - (Int.toNat (0 : Int))) (List.drop (Int.toNat (0 : Int)) (Vector.toList h_0_Root))))) ≤ (70368744177664 : Nat)) then
      head_Put_h0 k (Vector.setIfInBounds (Vector.setIfInBounds (Vector.setIfInBounds (Vector.replicate (3 : Nat) (0 : UInt32)) (0 : Nat) h_0_Time) (1 : Nat) h_0_Bits) (2 : Nat) h_0_Nonce) (0 : Int) (((List.replicate (0 : Nat) (0 : UInt8)) ++ (List.take ((Int.toNat (32 : Int)) - (Int.toNat (0 : Int))) (List.drop (Int.toNat (0 : Int)) (Vector.toList h_0_Prev)))) ++ (List.take ((Int.toNat (32 : Int)) - (Int.toNat (0 : Int))) (List.drop (Int.toNat (0 : Int)) (Vector.toList h_0_Root))))
    else none
  else none
theorem head_Put_q (k : Nat) (h_0_Prev : Vector UInt8 32) (h_0_Root : Vector UInt8 32) (h_0_Time : UInt32) (h_0_Bits : UInt32) (h_0_Nonce : UInt32) : head_Put k h_0_Prev h_0_Root h_0_Time h_0_Bits h_0_Nonce = (if (((List.length ((List.replicate (0 : Nat) (0 : UInt8)) ++ (List.take ((Int.toNat (32 : Int)) - (Int.toNat (0 : Int))) (List.drop (Int.toNat (0 : Int)) (Vector.toList h_0_Prev))))) * (1 : Nat)) ≤ (70368744177664 : Nat)) ∧ ((List.length ((List.replicate (0 : Nat) (0 : UInt8)) ++ (List.take ((Int.toNat (32 : Int)) - (Int.toNat (0 : Int))) (List.drop (Int.toNat (0 : Int)) (Vector.toList h_0_Prev))))) ≤ (70368744177664 : Nat)) then
    if (((List.length (((List.replicate (0 : Nat) (0 : UInt8)) ++ (List.take ((Int.toNat (32 : Int)) - (Int.toNat (0 : Int))) (List.drop (Int.toNat (0 : Int)) (Vector.toList h_0_Prev)))) ++ (List.take ((Int.toNat (32 : Int)) - (Int.toNat (0 : Int))) (List.drop (Int.toNat (0 : Int)) (Vector.toList h_0_Root))))) * (1 : Nat)) ≤ (70368744177664 : Nat)) ∧ ((List.length (((List.replicate (0 : Nat) (0 : UInt8)) ++ (List.take ((Int.toNat (32 : Int)) - (Int.toNat (0 : Int))) (List.drop (Int.toNat (0 : Int)) (Vector.toList h_0_Prev)))) ++ (List.take ((Int.toNat (32 : Int)) - (Int.toNat (0 : Int))) (List.drop (Int.toNat (0 : Int)) (Vector.toList h_0_Root))))) ≤ (70368744177664 : Nat)) then
      head_Put_h0 k (Vector.setIfInBounds (Vector.setIfInBounds (Vector.setIfInBounds (Vector.replicate (3 : Nat) (0 : UInt32)) (0 : Nat) h_0_Time) (1 : Nat) h_0_Bits) (2 : Nat) h_0_Nonce) (0 : Int) (((List.replicate (0 : Nat) (0 : UInt8)) ++ (List.take ((Int.toNat (32 : Int)) - (Int.toNat (0 : Int))) (List.drop (Int.toNat (0 : Int)) (Vector.toList h_0_Prev)))) ++ (List.take ((Int.toNat (32 : Int)) - (Int.toNat (0 : Int))) (List.drop (Int.toNat (0 : Int)) (Vector.toList h_0_Root))))
    else none
  else none) := by kernel_rfl
theorem head_Put_spec (p r : Vector UInt8 32) (t b n : UInt32) : Ev (fun k => head_Put k p r t b n) (headB p r t b n) := by
  have tp : ∀ v : Vector UInt8 32, List.take (Int.toNat (32 : Int) - Int.toNat (0 : Int)) (List.drop (Int.toNat (0 : Int)) (Vector.toList v)) = Vector.toList v := take32
  have l0 := lowY_len t.toNat 4
  have l1 := lowY_len b.toNat 4
  have l2 := lowY_len n.toNat 4
  have g0 : List.getD (Vector.toList (Vector.setIfInBounds (Vector.setIfInBounds (Vector.setIfInBounds (Vector.replicate 3 (0 : UInt32)) 0 t) 1 b) 2 n)) 0 0 = t := rfl
  have g1 : List.getD (Vector.toList (Vector.setIfInBounds (Vector.setIfInBounds (Vector.setIfInBounds (Vector.replicate 3 (0 : UInt32)) 0 t) 1 b) 2 n)) 1 0 = b := rfl
  have g2 : List.getD (Vector.toList (Vector.setIfInBounds (Vector.setIfInBounds (Vector.setIfInBounds (Vector.replicate 3 (0 : UInt32)) 0 t) 1 b) 2 n)) 2 0 = n := rfl
  have w1 : w64 ((0 : Int) + 1) = 1 := by decide
  have w2 : w64 ((1 : Int) + 1) = 2 := by decide
  have w3 : w64 ((2 : Int) + 1) = 3 := by decide
  refine ⟨4, ?_⟩
  show head_Put 4 p r t b n = _
  have hp : (Vector.toList p).length = 32 := by simp
  have hr : (Vector.toList r).length = 32 := by simp
  rw [head_Put, tp, tp, List.replicate_zero, List.nil_append, if_pos (by omega), if_pos (by rw [List.length_append]; omega)]
  rw [head_Put_h0, decide_eq_true (by decide), cond_true, if_pos (by decide), show Int.toNat 0 = 0 from rfl, g0, if_pos (by rw [List.length_append, List.length_append]; omega), w1]
  rw [head_Put_h0, decide_eq_true (by decide), cond_true, if_pos (by decide), show Int.toNat 1 = 1 from rfl, g1, if_pos (by rw [List.length_append, List.length_append, List.length_append]; omega), w2]
  rw [head_Put_h0, decide_eq_true (by decide), cond_true, if_pos (by decide), show Int.toNat 2 = 2 from rfl, g2, if_pos (by rw [List.length_append, List.length_append, List.length_append, List.length_append]; omega), w3]
  rw [head_Put_h0, decide_eq_false (by decide), cond_false, headB_eq]

end
end Go.Proofs.YtbdajagcinfeeaaDoor.M

namespace Go.Proofs.YtbdajagcinfeeaaDoor.M
open Go
noncomputable section
/-- moneyer/head.Id -/
def head_Id (h_0_Prev : Vector UInt8 32) (h_0_Root : Vector UInt8 32) (h_0_Time : UInt32) (h_0_Bits : UInt32) (h_0_Nonce : UInt32) : Option (Vector UInt8 32) :=
  if (List.length (headB h_0_Prev h_0_Root h_0_Time h_0_Bits h_0_Nonce)) ≤ (1099511627776 : Nat) then
    some (shaSum (Vector.toList (shaSum (headB h_0_Prev h_0_Root h_0_Time h_0_Bits h_0_Nonce))))
  else none
theorem head_Id_q (h_0_Prev : Vector UInt8 32) (h_0_Root : Vector UInt8 32) (h_0_Time : UInt32) (h_0_Bits : UInt32) (h_0_Nonce : UInt32) : head_Id h_0_Prev h_0_Root h_0_Time h_0_Bits h_0_Nonce = (if (List.length (headB h_0_Prev h_0_Root h_0_Time h_0_Bits h_0_Nonce)) ≤ (1099511627776 : Nat) then
    some (shaSum (Vector.toList (shaSum (headB h_0_Prev h_0_Root h_0_Time h_0_Bits h_0_Nonce))))
  else none) := by kernel_rfl
theorem head_Id_spec (p r : Vector UInt8 32) (t b n : UInt32) : head_Id p r t b n = some (idV p r t b n) := by
  rw [head_Id, if_pos (by rw [headB_len]; omega), idV_eq]

end
end Go.Proofs.YtbdajagcinfeeaaDoor.M

namespace Go.Proofs.YtbdajagcinfeeaaDoor.M
open Go
noncomputable section
/-- moneyer/head.Works -/
def head_Works (h_0_Prev : Vector UInt8 32) (h_0_Root : Vector UInt8 32) (h_0_Time : UInt32) (h_0_Bits : UInt32) (h_0_Nonce : UInt32) : Bool :=
  (meetsS (idV h_0_Prev h_0_Root h_0_Time h_0_Bits h_0_Nonce) h_0_Bits)
theorem head_Works_q (h_0_Prev : Vector UInt8 32) (h_0_Root : Vector UInt8 32) (h_0_Time : UInt32) (h_0_Bits : UInt32) (h_0_Nonce : UInt32) : head_Works h_0_Prev h_0_Root h_0_Time h_0_Bits h_0_Nonce = ((meetsS (idV h_0_Prev h_0_Root h_0_Time h_0_Bits h_0_Nonce) h_0_Bits)) := by kernel_rfl
theorem head_Works_spec (p r : Vector UInt8 32) (t b n : UInt32) : head_Works p r t b n = meetsS (idV p r t b n) b := by
  rw [head_Works]

end
end Go.Proofs.YtbdajagcinfeeaaDoor.M

namespace Go.Proofs.YtbdajagcinfeeaaDoor.M
open Go
noncomputable section
/-- moneyer/head.Get$1 -/
def head_Get1 (at_0 : Int) (l : List UInt8) : Option (UInt32) :=
  if (List.length l) ≤ (140737488351232 : Nat) then
    some (UInt64.toUInt32 (getN l at_0 (4 : Int)))
  else none
theorem head_Get1_q (at_0 : Int) (l : List UInt8) : head_Get1 at_0 l = (if (List.length l) ≤ (140737488351232 : Nat) then
    some (UInt64.toUInt32 (getN l at_0 (4 : Int)))
  else none) := by kernel_rfl
theorem head_Get1_spec (at_ : Int) (l : List UInt8) (hp : l.length ≤ 140737488351232) : head_Get1 at_ l = some (UInt64.toUInt32 (getN l at_ 4)) := by
  rw [head_Get1, if_pos hp]

end
end Go.Proofs.YtbdajagcinfeeaaDoor.M

namespace Go.Proofs.YtbdajagcinfeeaaDoor.M
open Go
noncomputable section
/-- moneyer/head.Get -/
def head_Get (b : List UInt8) (at_1 : Int) : Option (Vector UInt8 32 × Vector UInt8 32 × UInt32 × UInt32 × UInt32 × Int × Int) :=
  if ((List.length b) ≤ (140737488351232 : Nat)) ∧ ((76 : Int) ≤ (70368744177664 : Int)) then
    bif !(decide ((partE b at_1 (76 : Int)) = (0 : Int))) then (some ((Vector.replicate (32 : Nat) (0 : UInt8)), (Vector.replicate (32 : Nat) (0 : UInt8)), (0 : UInt32), (0 : UInt32), (0 : UInt32), (0 : Int), (partE b at_1 (76 : Int))))
      else (if ((0 : Int) ≤ (0 : Int)) ∧ (((0 : Int) ≤ (32 : Int)) ∧ ((32 : Int) ≤ (((List.length (partL b at_1 (76 : Int))) : Nat) : Int))) then
        if ((32 : Nat) ≤ (List.length (List.take ((Int.toNat (32 : Int)) - (Int.toNat (0 : Int))) (List.drop (Int.toNat (0 : Int)) (partL b at_1 (76 : Int)))))) ∧ ((0 : Nat) < (32 : Nat)) then
          if ((0 : Int) ≤ (32 : Int)) ∧ (((32 : Int) ≤ (64 : Int)) ∧ ((64 : Int) ≤ (((List.length (partL b at_1 (76 : Int))) : Nat) : Int))) then
            if ((32 : Nat) ≤ (List.length (List.take ((Int.toNat (64 : Int)) - (Int.toNat (32 : Int))) (List.drop (Int.toNat (32 : Int)) (partL b at_1 (76 : Int)))))) ∧ ((0 : Nat) < (32 : Nat)) then
              if (List.length (partL b at_1 (76 : Int))) ≤ (140737488351232 : Nat) then
                some ((Vector.ofFn (fun (z3 : Fin 32) => (List.getD (List.take ((Int.toNat (32 : Int)) - (Int.toNat (0 : Int))) (List.drop (Int.toNat (0 : Int)) (partL b at_1 (76 : Int)))) ((0 : Nat) + (Fin.val z3)) (0 : UInt8)))), (Vector.ofFn (fun (z3 : Fin 32) => (List.getD (List.take ((Int.toNat (64 : Int)) - (Int.toNat (32 : Int))) (List.drop (Int.toNat (32 : Int)) (partL b at_1 (76 : Int)))) ((0 : Nat) + (Fin.val z3)) (0 : UInt8)))), (UInt64.toUInt32 (getN (partL b at_1 (76 : Int)) (64 : Int) (4 : Int))), (UInt64.toUInt32 (getN (partL b at_1 (76 : Int)) (68 : Int) (4 : Int))), (UInt64.toUInt32 (getN (partL b at_1 (76 : Int)) (72 : Int) (4 : Int))), (w64 (at_1 + (76 : Int))), (0 : Int))
              else none
            else none
          else none
        else none
      else none)
  else none
theorem head_Get_q (b : List UInt8) (at_1 : Int) : head_Get b at_1 = (if ((List.length b) ≤ (140737488351232 : Nat)) ∧ ((76 : Int) ≤ (70368744177664 : Int)) then
    bif !(decide ((partE b at_1 (76 : Int)) = (0 : Int))) then (some ((Vector.replicate (32 : Nat) (0 : UInt8)), (Vector.replicate (32 : Nat) (0 : UInt8)), (0 : UInt32), (0 : UInt32), (0 : UInt32), (0 : Int), (partE b at_1 (76 : Int))))
      else (if ((0 : Int) ≤ (0 : Int)) ∧ (((0 : Int) ≤ (32 : Int)) ∧ ((32 : Int) ≤ (((List.length (partL b at_1 (76 : Int))) : Nat) : Int))) then
        if ((32 : Nat) ≤ (List.length (List.take ((Int.toNat (32 : Int)) - (Int.toNat (0 : Int))) (List.drop (Int.toNat (0 : Int)) (partL b at_1 (76 : Int)))))) ∧ ((0 : Nat) < (32 : Nat)) then
          if ((0 : Int) ≤ (32 : Int)) ∧ (((32 : Int) ≤ (64 : Int)) ∧ ((64 : Int) ≤ (((List.length (partL b at_1 (76 : Int))) : Nat) : Int))) then
            if ((32 : Nat) ≤ (List.length (List.take ((Int.toNat (64 : Int)) - (Int.toNat (32 : Int))) (List.drop (Int.toNat (32 : Int)) (partL b at_1 (76 : Int)))))) ∧ ((0 : Nat) < (32 : Nat)) then
              if (List.length (partL b at_1 (76 : Int))) ≤ (140737488351232 : Nat) then
                some ((Vector.ofFn (fun (z3 : Fin 32) => (List.getD (List.take ((Int.toNat (32 : Int)) - (Int.toNat (0 : Int))) (List.drop (Int.toNat (0 : Int)) (partL b at_1 (76 : Int)))) ((0 : Nat) + (Fin.val z3)) (0 : UInt8)))), (Vector.ofFn (fun (z3 : Fin 32) => (List.getD (List.take ((Int.toNat (64 : Int)) - (Int.toNat (32 : Int))) (List.drop (Int.toNat (32 : Int)) (partL b at_1 (76 : Int)))) ((0 : Nat) + (Fin.val z3)) (0 : UInt8)))), (UInt64.toUInt32 (getN (partL b at_1 (76 : Int)) (64 : Int) (4 : Int))), (UInt64.toUInt32 (getN (partL b at_1 (76 : Int)) (68 : Int) (4 : Int))), (UInt64.toUInt32 (getN (partL b at_1 (76 : Int)) (72 : Int) (4 : Int))), (w64 (at_1 + (76 : Int))), (0 : Int))
              else none
            else none
          else none
        else none
      else none)
  else none) := by kernel_rfl
theorem head_Get_spec (b : List UInt8) (a : Int) (hp : b.length ≤ 140737488351232) : head_Get b a = some (hgP b a, hgR b a, hgT b a, hgB b a, hgN b a, hgI b a, partE b a 76) := by
  rw [head_Get, if_pos ⟨hp, by decide⟩, hgP_eq, hgR_eq, hgT_eq, hgB_eq, hgN_eq, hgI_eq]
  by_cases h : partE b a 76 = 0
  · have hl : (partL b a 76).length = 76 := partL_len h
    simp only [if_pos h]
    rw [decide_eq_true h, h]
    simp only [Bool.not_true, cond_false]
    generalize partL b a 76 = l at *
    have e1 : (Vector.ofFn fun z : Fin 32 => List.getD (List.take (Int.toNat (32 : Int) - Int.toNat (0 : Int)) (List.drop (Int.toNat (0 : Int)) l)) (0 + z.val) 0) = gP l := by
      unfold gP
      congr 1
      funext z
      rw [Nat.zero_add]
      have := part_get l 0 32 z.val z.isLt
      rw [Nat.zero_add] at this
      exact this
    have e2 : (Vector.ofFn fun z : Fin 32 => List.getD (List.take (Int.toNat (64 : Int) - Int.toNat (32 : Int)) (List.drop (Int.toNat (32 : Int)) l)) (0 + z.val) 0) = gR l := by
      unfold gR
      congr 1
      funext z
      rw [Nat.zero_add]
      exact part_get l 32 32 z.val z.isLt
    rw [if_pos ⟨by decide, by decide, by omega⟩, if_pos ⟨by simp; omega, by decide⟩, if_pos ⟨by decide, by decide, by omega⟩, if_pos ⟨by simp; omega, by decide⟩, if_pos (by omega)]
    rw [← e1, ← e2]
  · simp only [if_neg h]
    rw [decide_eq_false h]
    rfl

end
end Go.Proofs.YtbdajagcinfeeaaDoor.M

namespace Go.Proofs.YtbdajagcinfeeaaDoor.M
open Go
noncomputable section
/-- moneyer/head.Read -/
def head_Read (b : List UInt8) : Option (Vector UInt8 32 × Vector UInt8 32 × UInt32 × UInt32 × UInt32 × Int) :=
  if (List.length b) ≤ (140737488351232 : Nat) then
    bif eqb (decide ((partE b (0 : Int) (76 : Int)) = (0 : Int))) true then (bif bif true then (decide ((hgI b (0 : Int)) < (((List.length b) : Nat) : Int))) else false then (some ((Vector.replicate (32 : Nat) (0 : UInt8)), (Vector.replicate (32 : Nat) (0 : UInt8)), (0 : UInt32), (0 : UInt32), (0 : UInt32), (5 : Int)))
        else (bif !(decide ((partE b (0 : Int) (76 : Int)) = (0 : Int))) then (some ((Vector.replicate (32 : Nat) (0 : UInt8)), (Vector.replicate (32 : Nat) (0 : UInt8)), (0 : UInt32), (0 : UInt32), (0 : UInt32), (partE b (0 : Int) (76 : Int))))
          else (some ((hgP b (0 : Int)), (hgR b (0 : Int)), (hgT b (0 : Int)), (hgB b (0 : Int)), (hgN b (0 : Int)), (0 : Int)))))
      else (bif !(decide ((partE b (0 : Int) (76 : Int)) = (0 : Int))) then (some ((Vector.replicate (32 : Nat) (0 : UInt8)), (Vector.replicate (32 : Nat) (0 : UInt8)), (0 : UInt32), (0 : UInt32), (0 : UInt32), (partE b (0 : Int) (76 : Int))))
        else (some ((hgP b (0 : Int)), (hgR b (0 : Int)), (hgT b (0 : Int)), (hgB b (0 : Int)), (hgN b (0 : Int)), (0 : Int))))
  else none
theorem head_Read_q (b : List UInt8) : head_Read b = (if (List.length b) ≤ (140737488351232 : Nat) then
    bif eqb (decide ((partE b (0 : Int) (76 : Int)) = (0 : Int))) true then (bif bif true then (decide ((hgI b (0 : Int)) < (((List.length b) : Nat) : Int))) else false then (some ((Vector.replicate (32 : Nat) (0 : UInt8)), (Vector.replicate (32 : Nat) (0 : UInt8)), (0 : UInt32), (0 : UInt32), (0 : UInt32), (5 : Int)))
        else (bif !(decide ((partE b (0 : Int) (76 : Int)) = (0 : Int))) then (some ((Vector.replicate (32 : Nat) (0 : UInt8)), (Vector.replicate (32 : Nat) (0 : UInt8)), (0 : UInt32), (0 : UInt32), (0 : UInt32), (partE b (0 : Int) (76 : Int))))
          else (some ((hgP b (0 : Int)), (hgR b (0 : Int)), (hgT b (0 : Int)), (hgB b (0 : Int)), (hgN b (0 : Int)), (0 : Int)))))
      else (bif !(decide ((partE b (0 : Int) (76 : Int)) = (0 : Int))) then (some ((Vector.replicate (32 : Nat) (0 : UInt8)), (Vector.replicate (32 : Nat) (0 : UInt8)), (0 : UInt32), (0 : UInt32), (0 : UInt32), (partE b (0 : Int) (76 : Int))))
        else (some ((hgP b (0 : Int)), (hgR b (0 : Int)), (hgT b (0 : Int)), (hgB b (0 : Int)), (hgN b (0 : Int)), (0 : Int))))
  else none) := by kernel_rfl
theorem hgI_0 {b : List UInt8} (h : partE b 0 76 = 0) : hgI b 0 = 76 := by rw [hgI_eq, if_pos h]; decide
theorem head_Read_spec (b : List UInt8) (hp : b.length ≤ 140737488351232) : head_Read b = some (rdV b (hgP b 0), rdV b (hgR b 0), rdW b (hgT b 0), rdW b (hgB b 0), rdW b (hgN b 0), rdE b) := by
  rw [head_Read, if_pos hp]
  by_cases h : partE b 0 76 = 0
  · rw [decide_eq_true h, hgI_0 h]
    by_cases g : 76 < b.length
    · have e : rdE b = 5 := by rw [rdE_eq, if_pos ⟨h, g⟩]
      rw [rdV_eq, rdV_eq, rdW_eq, rdW_eq, rdW_eq, e, decide_eq_true (p := (76 : Int) < ((b.length : Nat) : Int)) (by omega)]
      rfl
    · have e : rdE b = 0 := by rw [rdE_eq, if_neg (fun q => g q.2), h]
      rw [rdV_eq, rdV_eq, rdW_eq, rdW_eq, rdW_eq, e, decide_eq_false (p := (76 : Int) < ((b.length : Nat) : Int)) (by omega)]
      rfl
  · have e : rdE b = partE b 0 76 := by rw [rdE_eq, if_neg (fun q => h q.1)]
    rw [rdV_eq, rdV_eq, rdW_eq, rdW_eq, rdW_eq, e, if_neg h, if_neg h, if_neg h, if_neg h, if_neg h, decide_eq_false h]
    rfl

end
end Go.Proofs.YtbdajagcinfeeaaDoor.M

namespace Go.Proofs.YtbdajagcinfeeaaDoor.M
open Go
noncomputable section
/-- moneyer/head.Mine -/
def head_Mine (h_0_Prev : Vector UInt8 32) (h_0_Root : Vector UInt8 32) (h_0_Time : UInt32) (h_0_Bits : UInt32) (h_0_Nonce : UInt32) (tries : UInt32) : Option (Vector UInt8 32 × Vector UInt8 32 × UInt32 × UInt32 × UInt32 × Int) :=
  bif !(decide ((ofE h_0_Bits) = (0 : Int))) then (some ((Vector.replicate (32 : Nat) (0 : UInt8)), (Vector.replicate (32 : Nat) (0 : UInt8)), (0 : UInt32), (0 : UInt32), (0 : UInt32), (5 : Int)))
    else (none)
theorem head_Mine_q (h_0_Prev : Vector UInt8 32) (h_0_Root : Vector UInt8 32) (h_0_Time : UInt32) (h_0_Bits : UInt32) (h_0_Nonce : UInt32) (tries : UInt32) : head_Mine h_0_Prev h_0_Root h_0_Time h_0_Bits h_0_Nonce tries = (bif !(decide ((ofE h_0_Bits) = (0 : Int))) then (some ((Vector.replicate (32 : Nat) (0 : UInt8)), (Vector.replicate (32 : Nat) (0 : UInt8)), (0 : UInt32), (0 : UInt32), (0 : UInt32), (5 : Int)))
    else (none)) := by kernel_rfl
theorem head_Mine_spec (p r : Vector UInt8 32) (t b n m : UInt32) (h : ofE b ≠ 0) : head_Mine p r t b n m = some (Vector.replicate 32 0, Vector.replicate 32 0, 0, 0, 0, (5 : Int)) := by
  rw [head_Mine, decide_eq_false h]
  rfl

end
end Go.Proofs.YtbdajagcinfeeaaDoor.M

namespace Go.Proofs.YtbdajagcinfeeaaDoor.M
open Go
noncomputable section
/-- moneyer/head.Begin -/
def head_Begin  : Vector UInt8 32 × Vector UInt8 32 × UInt32 × UInt32 × UInt32 :=
  ((Vector.replicate (32 : Nat) (0 : UInt8)), (Vector.replicate (32 : Nat) (0 : UInt8)), (0 : UInt32), (545259519 : UInt32), (0 : UInt32))
theorem head_Begin_q  : head_Begin  = (((Vector.replicate (32 : Nat) (0 : UInt8)), (Vector.replicate (32 : Nat) (0 : UInt8)), (0 : UInt32), (545259519 : UInt32), (0 : UInt32))) := by kernel_rfl

end
end Go.Proofs.YtbdajagcinfeeaaDoor.M

namespace Go.Proofs.YtbdajagcinfeeaaDoor.M
open Go
noncomputable section
set_option maxRecDepth 100000
set_option maxHeartbeats 0
noncomputable def head_low_T : Tbl := [(59, [], ends_Put_c)]
noncomputable def head_low_C : CfgW := mkC Tryd.prog theG head_low_T 12 0 false
def head_low_lv : Nat → List Nat := fun i => []
noncomputable abbrev head_low_b : Code := Tryd.f43.body.getD .skip
noncomputable abbrev head_low_r : List ResultVar := Tryd.f43.results.toList
def head_low_hs : List Nat := []

def head_low_enc (r : List UInt8) : CallOut := ⟨.o 60000, [(60000, .row (.s .u8 r) false)], true, []⟩
theorem head_low_e (n : UInt32) (Q : CallOut → Prop) : evalFnP head_low_C head_low_lv head_low_r head_low_hs head_low_b [.pv (.sc .u32 n)] [] Q =
    (Q (head_low_enc (putL (UInt32.toUInt64 n) (4 : Int)))) := by kernel_rfl
theorem head_low_w (n : UInt32) {Q : CallOut → Prop} (h : Q (head_low_enc (head_low n))) : evalFnP head_low_C head_low_lv head_low_r head_low_hs head_low_b [.pv (.sc .u32 n)] [] Q :=
  Eq.mpr (head_low_e n Q) (have h := Eq.mp (congrArg (fun r => Q (head_low_enc r)) (head_low_q n)) h; h)
def head_low_c : Ans
  | [.pv (.sc .u32 n)], [] => some (none, head_low_enc (lowY n.toNat 4))
  | _, _ => none
theorem head_low_tok : TblOK Tryd.prog theG head_low_T := .cons ⟨by kernel_rfl, ends_Put_ok⟩ (.nil)
theorem head_low_ok : FnOK Tryd.prog theG 43 (unW head_low_c) := by
  refine FnOK.ofC (T := head_low_T) (nt := 12) (np := 0) (nf := false) (hs := head_low_hs) (fn := Tryd.f43) (body := head_low_b) head_low_tok (by kernel_rfl) (by kernel_rfl) (by kernel_rfl) (by kernel_rfl) (c := head_low_c) (lv := head_low_lv) ?_
  intro xs mem p out h hp
  unfold head_low_c at h
  split at h
  · cases h
    exact head_low_w _ (congrArg head_low_enc (head_low_spec _))
  · cases h
end
end Go.Proofs.YtbdajagcinfeeaaDoor.M

namespace Go.Proofs.YtbdajagcinfeeaaDoor.M
open Go
noncomputable section
set_option maxRecDepth 100000
set_option maxHeartbeats 0
noncomputable def head_Put_T : Tbl := [(43, [], head_low_c)]
noncomputable def head_Put_C : CfgW := mkC Tryd.prog theG head_Put_T 30 0 false
def head_Put_lv : Nat → List Nat := fun i => bif Nat.beq i 0 then [3, 20, 21] else []
noncomputable abbrev head_Put_b : Code := Tryd.f21.body.getD .skip
noncomputable abbrev head_Put_r : List ResultVar := Tryd.f21.results.toList
def head_Put_hs : List Nat := []

def head_Put_enc (r : List UInt8) : CallOut := ⟨.o 60000, [(60000, .row (.s .u8 r) false)], true, []⟩
def head_Put_s0 (t20 : Vector UInt32 3) (t21 : Int) (b : List UInt8) : St := ⟨[(3, .o 60000), (20, .pv (.arr .u32 3 t20)), (21, .pv (.sc .i t21))], [(60000, .row (.s .u8 b) false)]⟩
theorem head_Put_g0 (t20 : Vector UInt32 3) (t21 : Int) (b : List UInt8) (Q : CallOut → Prop) : headRound head_Put_C head_Put_lv [true, true, true, false, true, false] head_Put_b (head_Put_s0 t20 t21 b) (fnK head_Put_C head_Put_r head_Put_hs Q) =
    (condP (decide (t21 < (3 : Int))) ((((0 : Int) ≤ t21) ∧ (t21 < (3 : Int))) ∧ (((((List.length (b ++ (lowY (UInt32.toNat (List.getD (Vector.toList t20) (Int.toNat t21) (0 : UInt32))) (4 : Nat)))) * (1 : Nat)) ≤ (70368744177664 : Nat)) ∧ ((List.length (b ++ (lowY (UInt32.toNat (List.getD (Vector.toList t20) (Int.toNat t21) (0 : UInt32))) (4 : Nat)))) ≤ (70368744177664 : Nat))) ∧ (headP head_Put_C head_Put_lv [true, true, true, false, true, false] head_Put_b (head_Put_s0 t20 (w64 (t21 + (1 : Int))) (b ++ (lowY (UInt32.toNat (List.getD (Vector.toList t20) (Int.toNat t21) (0 : UInt32))) (4 : Nat)))) (fnK head_Put_C head_Put_r head_Put_hs Q)))) (Q (head_Put_enc b))) := by kernel_rfl
theorem head_Put_k0 {r : List UInt8} {Q : CallOut → Prop} (hQ : Q (head_Put_enc r)) : ∀ k : Nat, (∀ (t20 : Vector UInt32 3) (t21 : Int) (b : List UInt8), head_Put_h0 k t20 t21 b = some r → headP head_Put_C head_Put_lv [true, true, true, false, true, false] head_Put_b (head_Put_s0 t20 t21 b) (fnK head_Put_C head_Put_r head_Put_hs Q))
  | 0 => fun _ _ _ h => no_ok h
  | k + 1 => fun t20 t21 b h => headP_step (Eq.mpr (head_Put_g0 t20 t21 b Q) (have h := (head_Put_h0_q k t20 t21 b).symm.trans h; cond_ok h (fun h => ite_ok h fun hc0 h => ite_ok h fun hc1 h => (head_Put_k0 hQ k) _ _ _ h) (fun h => ret_ok (Q := Q) (e := head_Put_enc) h hQ)))
theorem head_Put_e (h_0_Prev : Vector UInt8 32) (h_0_Root : Vector UInt8 32) (h_0_Time : UInt32) (h_0_Bits : UInt32) (h_0_Nonce : UInt32) (Q : CallOut → Prop) : evalFnP head_Put_C head_Put_lv head_Put_r head_Put_hs head_Put_b [.pv (.st [.arr .u8 32 h_0_Prev, .arr .u8 32 h_0_Root, .sc .u32 h_0_Time, .sc .u32 h_0_Bits, .sc .u32 h_0_Nonce])] [] Q =
    ((((0 : Int) ≤ (0 : Int)) ∧ (((0 : Int) ≤ (76 : Int)) ∧ ((((76 : Int) * (((1 : Nat) : Nat) : Int)) ≤ (((70368744177664 : Nat) : Nat) : Int)) ∧ ((76 : Int) ≤ ((2 : Int) ^ (62 : Nat)))))) ∧ ((((0 : Int) ≤ (0 : Int)) ∧ (((0 : Int) ≤ (32 : Int)) ∧ ((32 : Int) ≤ (((32 : Nat) : Nat) : Int)))) ∧ (((((List.length ((List.replicate (0 : Nat) (0 : UInt8)) ++ (List.take ((Int.toNat (32 : Int)) - (Int.toNat (0 : Int))) (List.drop (Int.toNat (0 : Int)) (Vector.toList h_0_Prev))))) * (1 : Nat)) ≤ (70368744177664 : Nat)) ∧ ((List.length ((List.replicate (0 : Nat) (0 : UInt8)) ++ (List.take ((Int.toNat (32 : Int)) - (Int.toNat (0 : Int))) (List.drop (Int.toNat (0 : Int)) (Vector.toList h_0_Prev))))) ≤ (70368744177664 : Nat))) ∧ ((((0 : Int) ≤ (0 : Int)) ∧ (((0 : Int) ≤ (32 : Int)) ∧ ((32 : Int) ≤ (((32 : Nat) : Nat) : Int)))) ∧ (((((List.length (((List.replicate (0 : Nat) (0 : UInt8)) ++ (List.take ((Int.toNat (32 : Int)) - (Int.toNat (0 : Int))) (List.drop (Int.toNat (0 : Int)) (Vector.toList h_0_Prev)))) ++ (List.take ((Int.toNat (32 : Int)) - (Int.toNat (0 : Int))) (List.drop (Int.toNat (0 : Int)) (Vector.toList h_0_Root))))) * (1 : Nat)) ≤ (70368744177664 : Nat)) ∧ ((List.length (((List.replicate (0 : Nat) (0 : UInt8)) ++ (List.take ((Int.toNat (32 : Int)) - (Int.toNat (0 : Int))) (List.drop (Int.toNat (0 : Int)) (Vector.toList h_0_Prev)))) ++ (List.take ((Int.toNat (32 : Int)) - (Int.toNat (0 : Int))) (List.drop (Int.toNat (0 : Int)) (Vector.toList h_0_Root))))) ≤ (70368744177664 : Nat))) ∧ (headP head_Put_C head_Put_lv [true, true, true, false, true, false] head_Put_b (head_Put_s0 (Vector.setIfInBounds (Vector.setIfInBounds (Vector.setIfInBounds (Vector.replicate (3 : Nat) (0 : UInt32)) (0 : Nat) h_0_Time) (1 : Nat) h_0_Bits) (2 : Nat) h_0_Nonce) (0 : Int) (((List.replicate (0 : Nat) (0 : UInt8)) ++ (List.take ((Int.toNat (32 : Int)) - (Int.toNat (0 : Int))) (List.drop (Int.toNat (0 : Int)) (Vector.toList h_0_Prev)))) ++ (List.take ((Int.toNat (32 : Int)) - (Int.toNat (0 : Int))) (List.drop (Int.toNat (0 : Int)) (Vector.toList h_0_Root))))) (fnK head_Put_C head_Put_r head_Put_hs Q))))))) := by kernel_rfl
theorem head_Put_w {k : Nat} (h_0_Prev : Vector UInt8 32) (h_0_Root : Vector UInt8 32) (h_0_Time : UInt32) (h_0_Bits : UInt32) (h_0_Nonce : UInt32) {r} {Q : CallOut → Prop} (h : head_Put k h_0_Prev h_0_Root h_0_Time h_0_Bits h_0_Nonce = some r) (hQ : Q (head_Put_enc r)) : evalFnP head_Put_C head_Put_lv head_Put_r head_Put_hs head_Put_b [.pv (.st [.arr .u8 32 h_0_Prev, .arr .u8 32 h_0_Root, .sc .u32 h_0_Time, .sc .u32 h_0_Bits, .sc .u32 h_0_Nonce])] [] Q :=
  Eq.mpr (head_Put_e h_0_Prev h_0_Root h_0_Time h_0_Bits h_0_Nonce Q) (have h := (head_Put_q k h_0_Prev h_0_Root h_0_Time h_0_Bits h_0_Nonce).symm.trans h; ⟨by decide +kernel, ⟨by decide +kernel, ite_ok h fun hc0 h => ⟨by decide +kernel, ite_ok h fun hc1 h => (head_Put_k0 hQ _) _ _ _ h⟩⟩⟩)
def head_Put_c : Ans
  | [.pv (.st [.arr .u8 32 h_0_Prev, .arr .u8 32 h_0_Root, .sc .u32 h_0_Time, .sc .u32 h_0_Bits, .sc .u32 h_0_Nonce])], [] => some (none, head_Put_enc (headB h_0_Prev h_0_Root h_0_Time h_0_Bits h_0_Nonce))
  | _, _ => none
theorem head_Put_tok : TblOK Tryd.prog theG head_Put_T := .cons ⟨by kernel_rfl, head_low_ok⟩ (.nil)
theorem head_Put_ok : FnOK Tryd.prog theG 21 (unW head_Put_c) := by
  refine FnOK.ofC (T := head_Put_T) (nt := 30) (np := 0) (nf := false) (hs := head_Put_hs) (fn := Tryd.f21) (body := head_Put_b) head_Put_tok (by kernel_rfl) (by kernel_rfl) (by kernel_rfl) (by kernel_rfl) (c := head_Put_c) (lv := head_Put_lv) ?_
  intro xs mem p out h hp
  unfold head_Put_c at h
  split at h
  · cases h
    obtain ⟨k, hk⟩ := head_Put_spec _ _ _ _ _
    exact head_Put_w _ _ _ _ _ hk rfl
  · cases h
end
end Go.Proofs.YtbdajagcinfeeaaDoor.M

namespace Go.Proofs.YtbdajagcinfeeaaDoor.M
open Go
noncomputable section
set_option maxRecDepth 100000
set_option maxHeartbeats 0
noncomputable def head_Id_T : Tbl := [(21, [], head_Put_c), (45, [], sha_Twice_c)]
noncomputable def head_Id_C : CfgW := mkC Tryd.prog theG head_Id_T 6 0 false
def head_Id_lv : Nat → List Nat := fun i => []
noncomputable abbrev head_Id_b : Code := Tryd.f23.body.getD .skip
noncomputable abbrev head_Id_r : List ResultVar := Tryd.f23.results.toList
def head_Id_hs : List Nat := []

def head_Id_enc (r : Vector UInt8 32) : CallOut := ⟨.pv (.arr .u8 32 r), [], true, []⟩
theorem head_Id_e (h_0_Prev : Vector UInt8 32) (h_0_Root : Vector UInt8 32) (h_0_Time : UInt32) (h_0_Bits : UInt32) (h_0_Nonce : UInt32) (Q : CallOut → Prop) : evalFnP head_Id_C head_Id_lv head_Id_r head_Id_hs head_Id_b [.pv (.st [.arr .u8 32 h_0_Prev, .arr .u8 32 h_0_Root, .sc .u32 h_0_Time, .sc .u32 h_0_Bits, .sc .u32 h_0_Nonce])] [] Q =
    (((List.length (headB h_0_Prev h_0_Root h_0_Time h_0_Bits h_0_Nonce)) ≤ (1099511627776 : Nat)) ∧ (Q (head_Id_enc (shaSum (Vector.toList (shaSum (headB h_0_Prev h_0_Root h_0_Time h_0_Bits h_0_Nonce))))))) := by kernel_rfl
theorem head_Id_w (h_0_Prev : Vector UInt8 32) (h_0_Root : Vector UInt8 32) (h_0_Time : UInt32) (h_0_Bits : UInt32) (h_0_Nonce : UInt32) {r} {Q : CallOut → Prop} (h : head_Id h_0_Prev h_0_Root h_0_Time h_0_Bits h_0_Nonce = some r) (hQ : Q (head_Id_enc r)) : evalFnP head_Id_C head_Id_lv head_Id_r head_Id_hs head_Id_b [.pv (.st [.arr .u8 32 h_0_Prev, .arr .u8 32 h_0_Root, .sc .u32 h_0_Time, .sc .u32 h_0_Bits, .sc .u32 h_0_Nonce])] [] Q :=
  Eq.mpr (head_Id_e h_0_Prev h_0_Root h_0_Time h_0_Bits h_0_Nonce Q) (have h := (head_Id_q h_0_Prev h_0_Root h_0_Time h_0_Bits h_0_Nonce).symm.trans h; ite_ok h fun hc0 h => ret_ok (Q := Q) (e := head_Id_enc) h hQ)
def head_Id_c : Ans
  | [.pv (.st [.arr .u8 32 h_0_Prev, .arr .u8 32 h_0_Root, .sc .u32 h_0_Time, .sc .u32 h_0_Bits, .sc .u32 h_0_Nonce])], [] => some (none, head_Id_enc (idV h_0_Prev h_0_Root h_0_Time h_0_Bits h_0_Nonce))
  | _, _ => none
theorem head_Id_tok : TblOK Tryd.prog theG head_Id_T := .cons ⟨by kernel_rfl, head_Put_ok⟩ (.cons ⟨by kernel_rfl, sha_Twice_ok⟩ (.nil))
theorem head_Id_ok : FnOK Tryd.prog theG 23 (unW head_Id_c) := by
  refine FnOK.ofC (T := head_Id_T) (nt := 6) (np := 0) (nf := false) (hs := head_Id_hs) (fn := Tryd.f23) (body := head_Id_b) head_Id_tok (by kernel_rfl) (by kernel_rfl) (by kernel_rfl) (by kernel_rfl) (c := head_Id_c) (lv := head_Id_lv) ?_
  intro xs mem p out h hp
  unfold head_Id_c at h
  split at h
  · cases h
    exact head_Id_w _ _ _ _ _ (head_Id_spec _ _ _ _ _) rfl
  · cases h
end
end Go.Proofs.YtbdajagcinfeeaaDoor.M

namespace Go.Proofs.YtbdajagcinfeeaaDoor.M
open Go
noncomputable section
set_option maxRecDepth 100000
set_option maxHeartbeats 0
noncomputable def head_Works_T : Tbl := [(23, [], head_Id_c), (46, [], target_Meets_c)]
noncomputable def head_Works_C : CfgW := mkC Tryd.prog theG head_Works_T 8 0 false
def head_Works_lv : Nat → List Nat := fun i => []
noncomputable abbrev head_Works_b : Code := Tryd.f25.body.getD .skip
noncomputable abbrev head_Works_r : List ResultVar := Tryd.f25.results.toList
def head_Works_hs : List Nat := []

def head_Works_enc (r : Bool) : CallOut := ⟨.pv (.sc .b r), [], true, []⟩
theorem head_Works_e (h_0_Prev : Vector UInt8 32) (h_0_Root : Vector UInt8 32) (h_0_Time : UInt32) (h_0_Bits : UInt32) (h_0_Nonce : UInt32) (Q : CallOut → Prop) : evalFnP head_Works_C head_Works_lv head_Works_r head_Works_hs head_Works_b [.pv (.st [.arr .u8 32 h_0_Prev, .arr .u8 32 h_0_Root, .sc .u32 h_0_Time, .sc .u32 h_0_Bits, .sc .u32 h_0_Nonce])] [] Q =
    (Q (head_Works_enc (meetsS (idV h_0_Prev h_0_Root h_0_Time h_0_Bits h_0_Nonce) h_0_Bits))) := by kernel_rfl
theorem head_Works_w (h_0_Prev : Vector UInt8 32) (h_0_Root : Vector UInt8 32) (h_0_Time : UInt32) (h_0_Bits : UInt32) (h_0_Nonce : UInt32) {Q : CallOut → Prop} (h : Q (head_Works_enc (head_Works h_0_Prev h_0_Root h_0_Time h_0_Bits h_0_Nonce))) : evalFnP head_Works_C head_Works_lv head_Works_r head_Works_hs head_Works_b [.pv (.st [.arr .u8 32 h_0_Prev, .arr .u8 32 h_0_Root, .sc .u32 h_0_Time, .sc .u32 h_0_Bits, .sc .u32 h_0_Nonce])] [] Q :=
  Eq.mpr (head_Works_e h_0_Prev h_0_Root h_0_Time h_0_Bits h_0_Nonce Q) (have h := Eq.mp (congrArg (fun r => Q (head_Works_enc r)) (head_Works_q h_0_Prev h_0_Root h_0_Time h_0_Bits h_0_Nonce)) h; h)
def head_Works_c : Ans
  | [.pv (.st [.arr .u8 32 h_0_Prev, .arr .u8 32 h_0_Root, .sc .u32 h_0_Time, .sc .u32 h_0_Bits, .sc .u32 h_0_Nonce])], [] => some (none, head_Works_enc (meetsS (idV h_0_Prev h_0_Root h_0_Time h_0_Bits h_0_Nonce) h_0_Bits))
  | _, _ => none
theorem head_Works_tok : TblOK Tryd.prog theG head_Works_T := .cons ⟨by kernel_rfl, head_Id_ok⟩ (.cons ⟨by kernel_rfl, target_Meets_ok⟩ (.nil))
theorem head_Works_ok : FnOK Tryd.prog theG 25 (unW head_Works_c) := by
  refine FnOK.ofC (T := head_Works_T) (nt := 8) (np := 0) (nf := false) (hs := head_Works_hs) (fn := Tryd.f25) (body := head_Works_b) head_Works_tok (by kernel_rfl) (by kernel_rfl) (by kernel_rfl) (by kernel_rfl) (c := head_Works_c) (lv := head_Works_lv) ?_
  intro xs mem p out h hp
  unfold head_Works_c at h
  split at h
  · cases h
    exact head_Works_w _ _ _ _ _ (congrArg head_Works_enc (head_Works_spec _ _ _ _ _))
  · cases h
end
end Go.Proofs.YtbdajagcinfeeaaDoor.M

namespace Go.Proofs.YtbdajagcinfeeaaDoor.M
open Go
noncomputable section
set_option maxRecDepth 100000
set_option maxHeartbeats 0
noncomputable def head_Get1_T : Tbl := [(51, [], ends_Get_c)]
noncomputable def head_Get1_C : CfgW := mkC Tryd.prog theG head_Get1_T 14 0 false
def head_Get1_lv : Nat → List Nat := fun i => []
noncomputable abbrev head_Get1_b : Code := Tryd.f50.body.getD .skip
noncomputable abbrev head_Get1_r : List ResultVar := Tryd.f50.results.toList
def head_Get1_hs : List Nat := []

def head_Get1_enc (r : UInt32) : CallOut := ⟨.pv (.sc .u32 r), [], true, []⟩
theorem head_Get1_e (at_0 : Int) (l : List UInt8) (Q : CallOut → Prop) : evalFnP head_Get1_C head_Get1_lv head_Get1_r head_Get1_hs head_Get1_b [.pv (.sc .i at_0), .rp (.sl .u8 l)] [] Q =
    (((List.length l) ≤ (140737488351232 : Nat)) ∧ (Q (head_Get1_enc (UInt64.toUInt32 (getN l at_0 (4 : Int)))))) := by kernel_rfl
theorem head_Get1_w (at_0 : Int) (l : List UInt8) {r} {Q : CallOut → Prop} (h : head_Get1 at_0 l = some r) (hQ : Q (head_Get1_enc r)) : evalFnP head_Get1_C head_Get1_lv head_Get1_r head_Get1_hs head_Get1_b [.pv (.sc .i at_0), .rp (.sl .u8 l)] [] Q :=
  Eq.mpr (head_Get1_e at_0 l Q) (have h := (head_Get1_q at_0 l).symm.trans h; ite_ok h fun hc0 h => ret_ok (Q := Q) (e := head_Get1_enc) h hQ)
def head_Get1_c : Ans
  | [.pv (.sc .i at_0), .rp (.sl .u8 l)], [] => some (some (l.length ≤ 140737488351232), head_Get1_enc (UInt64.toUInt32 (getN l at_0 4)))
  | _, _ => none
theorem head_Get1_tok : TblOK Tryd.prog theG head_Get1_T := .cons ⟨by kernel_rfl, ends_Get_ok⟩ (.nil)
theorem head_Get1_ok : FnOK Tryd.prog theG 50 (unW head_Get1_c) := by
  refine FnOK.ofC (T := head_Get1_T) (nt := 14) (np := 0) (nf := false) (hs := head_Get1_hs) (fn := Tryd.f50) (body := head_Get1_b) head_Get1_tok (by kernel_rfl) (by kernel_rfl) (by kernel_rfl) (by kernel_rfl) (c := head_Get1_c) (lv := head_Get1_lv) ?_
  intro xs mem p out h hp
  unfold head_Get1_c at h
  split at h
  · cases h
    exact head_Get1_w _ _ (head_Get1_spec _ _ hp) rfl
  · cases h
end
end Go.Proofs.YtbdajagcinfeeaaDoor.M

namespace Go.Proofs.YtbdajagcinfeeaaDoor.M
open Go
noncomputable section
set_option maxRecDepth 100000
set_option maxHeartbeats 0
noncomputable def head_Get_T : Tbl := [(49, [], ends_Part_c), (50, [], head_Get1_c)]
noncomputable def head_Get_C : CfgW := mkC Tryd.prog theG head_Get_T 40 0 false
def head_Get_lv : Nat → List Nat := fun i => bif Nat.beq i 1000004 then [2007] else []
noncomputable abbrev head_Get_b : Code := Tryd.f28.body.getD .skip
noncomputable abbrev head_Get_r : List ResultVar := Tryd.f28.results.toList
def head_Get_hs : List Nat := []

def head_Get_enc (r : Vector UInt8 32 × Vector UInt8 32 × UInt32 × UInt32 × UInt32 × Int × Int) : CallOut := ⟨.tup [.pv (.st [.arr .u8 32 r.1, .arr .u8 32 r.2.1, .sc .u32 r.2.2.1, .sc .u32 r.2.2.2.1, .sc .u32 r.2.2.2.2.1]), .pv (.sc .i r.2.2.2.2.2.1), .pv (.sc .i r.2.2.2.2.2.2)], [], true, []⟩
theorem head_Get_e (b : List UInt8) (at_1 : Int) (Q : CallOut → Prop) : evalFnP head_Get_C head_Get_lv head_Get_r head_Get_hs head_Get_b [.pv (.sl .u8 b), .pv (.sc .i at_1)] [] Q =
    ((((List.length b) ≤ (140737488351232 : Nat)) ∧ ((76 : Int) ≤ (70368744177664 : Int))) ∧ (condP (!(decide ((partE b at_1 (76 : Int)) = (0 : Int)))) (Q (head_Get_enc ((Vector.replicate (32 : Nat) (0 : UInt8)), (Vector.replicate (32 : Nat) (0 : UInt8)), (0 : UInt32), (0 : UInt32), (0 : UInt32), (0 : Int), (partE b at_1 (76 : Int))))) ((((0 : Int) ≤ (0 : Int)) ∧ (((0 : Int) ≤ (32 : Int)) ∧ ((32 : Int) ≤ (((List.length (partL b at_1 (76 : Int))) : Nat) : Int)))) ∧ ((((32 : Nat) ≤ (List.length (List.take ((Int.toNat (32 : Int)) - (Int.toNat (0 : Int))) (List.drop (Int.toNat (0 : Int)) (partL b at_1 (76 : Int)))))) ∧ ((0 : Nat) < (32 : Nat))) ∧ ((((0 : Int) ≤ (32 : Int)) ∧ (((32 : Int) ≤ (64 : Int)) ∧ ((64 : Int) ≤ (((List.length (partL b at_1 (76 : Int))) : Nat) : Int)))) ∧ ((((32 : Nat) ≤ (List.length (List.take ((Int.toNat (64 : Int)) - (Int.toNat (32 : Int))) (List.drop (Int.toNat (32 : Int)) (partL b at_1 (76 : Int)))))) ∧ ((0 : Nat) < (32 : Nat))) ∧ (((List.length (partL b at_1 (76 : Int))) ≤ (140737488351232 : Nat)) ∧ (((List.length (partL b at_1 (76 : Int))) ≤ (140737488351232 : Nat)) ∧ (((List.length (partL b at_1 (76 : Int))) ≤ (140737488351232 : Nat)) ∧ (Q (head_Get_enc ((Vector.ofFn (fun (z3 : Fin 32) => (List.getD (List.take ((Int.toNat (32 : Int)) - (Int.toNat (0 : Int))) (List.drop (Int.toNat (0 : Int)) (partL b at_1 (76 : Int)))) ((0 : Nat) + (Fin.val z3)) (0 : UInt8)))), (Vector.ofFn (fun (z3 : Fin 32) => (List.getD (List.take ((Int.toNat (64 : Int)) - (Int.toNat (32 : Int))) (List.drop (Int.toNat (32 : Int)) (partL b at_1 (76 : Int)))) ((0 : Nat) + (Fin.val z3)) (0 : UInt8)))), (UInt64.toUInt32 (getN (partL b at_1 (76 : Int)) (64 : Int) (4 : Int))), (UInt64.toUInt32 (getN (partL b at_1 (76 : Int)) (68 : Int) (4 : Int))), (UInt64.toUInt32 (getN (partL b at_1 (76 : Int)) (72 : Int) (4 : Int))), (w64 (at_1 + (76 : Int))), (0 : Int))))))))))))) := by kernel_rfl
theorem head_Get_w (b : List UInt8) (at_1 : Int) {r} {Q : CallOut → Prop} (h : head_Get b at_1 = some r) (hQ : Q (head_Get_enc r)) : evalFnP head_Get_C head_Get_lv head_Get_r head_Get_hs head_Get_b [.pv (.sl .u8 b), .pv (.sc .i at_1)] [] Q :=
  Eq.mpr (head_Get_e b at_1 Q) (have h := (head_Get_q b at_1).symm.trans h; ite_ok h fun hc0 h => cond_ok h (fun h => ret_ok (Q := Q) (e := head_Get_enc) h hQ) (fun h => ite_ok h fun hc1 h => ite_ok h fun hc2 h => ite_ok h fun hc3 h => ite_ok h fun hc4 h => ite_ok h fun hc5 h => ⟨hc5, ⟨hc5, ret_ok (Q := Q) (e := head_Get_enc) h hQ⟩⟩))
def head_Get_c : Ans
  | [.pv (.sl .u8 b), .pv (.sc .i at_1)], [] => some (some (b.length ≤ 140737488351232), head_Get_enc ((hgP b at_1, hgR b at_1, hgT b at_1, hgB b at_1, hgN b at_1, hgI b at_1, partE b at_1 76)))
  | _, _ => none
theorem head_Get_tok : TblOK Tryd.prog theG head_Get_T := .cons ⟨by kernel_rfl, ends_Part_ok⟩ (.cons ⟨by kernel_rfl, head_Get1_ok⟩ (.nil))
theorem head_Get_ok : FnOK Tryd.prog theG 28 (unW head_Get_c) := by
  refine FnOK.ofC (T := head_Get_T) (nt := 40) (np := 0) (nf := false) (hs := head_Get_hs) (fn := Tryd.f28) (body := head_Get_b) head_Get_tok (by kernel_rfl) (by kernel_rfl) (by kernel_rfl) (by kernel_rfl) (c := head_Get_c) (lv := head_Get_lv) ?_
  intro xs mem p out h hp
  unfold head_Get_c at h
  split at h
  · cases h
    exact head_Get_w _ _ (head_Get_spec _ _ hp) rfl
  · cases h
end
end Go.Proofs.YtbdajagcinfeeaaDoor.M

namespace Go.Proofs.YtbdajagcinfeeaaDoor.M
open Go
noncomputable section
set_option maxRecDepth 100000
set_option maxHeartbeats 0
noncomputable def head_Read_T : Tbl := [(28, [], head_Get_c)]
noncomputable def head_Read_C : CfgW := mkC Tryd.prog theG head_Read_T 26 0 false
def head_Read_lv : Nat → List Nat := fun i => []
noncomputable abbrev head_Read_b : Code := Tryd.f30.body.getD .skip
noncomputable abbrev head_Read_r : List ResultVar := Tryd.f30.results.toList
def head_Read_hs : List Nat := []

def head_Read_enc (r : Vector UInt8 32 × Vector UInt8 32 × UInt32 × UInt32 × UInt32 × Int) : CallOut := ⟨.tup [.pv (.st [.arr .u8 32 r.1, .arr .u8 32 r.2.1, .sc .u32 r.2.2.1, .sc .u32 r.2.2.2.1, .sc .u32 r.2.2.2.2.1]), .pv (.sc .i r.2.2.2.2.2)], [], true, []⟩
theorem head_Read_e (b : List UInt8) (Q : CallOut → Prop) : evalFnP head_Read_C head_Read_lv head_Read_r head_Read_hs head_Read_b [.pv (.sl .u8 b)] [] Q =
    (((List.length b) ≤ (140737488351232 : Nat)) ∧ (condP (eqb (decide ((partE b (0 : Int) (76 : Int)) = (0 : Int))) true) (condP (bif true then (decide ((hgI b (0 : Int)) < (((List.length b) : Nat) : Int))) else false) (Q (head_Read_enc ((Vector.replicate (32 : Nat) (0 : UInt8)), (Vector.replicate (32 : Nat) (0 : UInt8)), (0 : UInt32), (0 : UInt32), (0 : UInt32), (5 : Int)))) (condP (!(decide ((partE b (0 : Int) (76 : Int)) = (0 : Int)))) (Q (head_Read_enc ((Vector.replicate (32 : Nat) (0 : UInt8)), (Vector.replicate (32 : Nat) (0 : UInt8)), (0 : UInt32), (0 : UInt32), (0 : UInt32), (partE b (0 : Int) (76 : Int))))) (Q (head_Read_enc ((hgP b (0 : Int)), (hgR b (0 : Int)), (hgT b (0 : Int)), (hgB b (0 : Int)), (hgN b (0 : Int)), (0 : Int)))))) (condP (!(decide ((partE b (0 : Int) (76 : Int)) = (0 : Int)))) (Q (head_Read_enc ((Vector.replicate (32 : Nat) (0 : UInt8)), (Vector.replicate (32 : Nat) (0 : UInt8)), (0 : UInt32), (0 : UInt32), (0 : UInt32), (partE b (0 : Int) (76 : Int))))) (Q (head_Read_enc ((hgP b (0 : Int)), (hgR b (0 : Int)), (hgT b (0 : Int)), (hgB b (0 : Int)), (hgN b (0 : Int)), (0 : Int))))))) := by kernel_rfl
theorem head_Read_w (b : List UInt8) {r} {Q : CallOut → Prop} (h : head_Read b = some r) (hQ : Q (head_Read_enc r)) : evalFnP head_Read_C head_Read_lv head_Read_r head_Read_hs head_Read_b [.pv (.sl .u8 b)] [] Q :=
  Eq.mpr (head_Read_e b Q) (have h := (head_Read_q b).symm.trans h; ite_ok h fun hc0 h => cond_ok h (fun h => cond_ok h (fun h => ret_ok (Q := Q) (e := head_Read_enc) h hQ) (fun h => cond_ok h (fun h => ret_ok (Q := Q) (e := head_Read_enc) h hQ) (fun h => ret_ok (Q := Q) (e := head_Read_enc) h hQ))) (fun h => cond_ok h (fun h => ret_ok (Q := Q) (e := head_Read_enc) h hQ) (fun h => ret_ok (Q := Q) (e := head_Read_enc) h hQ)))
def head_Read_c : Ans
  | [.pv (.sl .u8 b)], [] => some (some (b.length ≤ 140737488351232), head_Read_enc ((rdV b (hgP b 0), rdV b (hgR b 0), rdW b (hgT b 0), rdW b (hgB b 0), rdW b (hgN b 0), rdE b)))
  | _, _ => none
theorem head_Read_tok : TblOK Tryd.prog theG head_Read_T := .cons ⟨by kernel_rfl, head_Get_ok⟩ (.nil)
theorem head_Read_ok : FnOK Tryd.prog theG 30 (unW head_Read_c) := by
  refine FnOK.ofC (T := head_Read_T) (nt := 26) (np := 0) (nf := false) (hs := head_Read_hs) (fn := Tryd.f30) (body := head_Read_b) head_Read_tok (by kernel_rfl) (by kernel_rfl) (by kernel_rfl) (by kernel_rfl) (c := head_Read_c) (lv := head_Read_lv) ?_
  intro xs mem p out h hp
  unfold head_Read_c at h
  split at h
  · cases h
    exact head_Read_w _ (head_Read_spec _ hp) rfl
  · cases h
end
end Go.Proofs.YtbdajagcinfeeaaDoor.M

namespace Go.Proofs.YtbdajagcinfeeaaDoor.M
open Go
noncomputable section
set_option maxRecDepth 100000
set_option maxHeartbeats 0
noncomputable def head_Mine_T : Tbl := [(54, [], target_Of_c), (25, [], head_Works_c)]
noncomputable def head_Mine_C : CfgW := mkC Tryd.prog theG head_Mine_T 26 0 false
def head_Mine_lv : Nat → List Nat := fun i => []
noncomputable abbrev head_Mine_b : Code := Tryd.f32.body.getD .skip
noncomputable abbrev head_Mine_r : List ResultVar := Tryd.f32.results.toList
def head_Mine_hs : List Nat := []

def head_Mine_enc (r : Vector UInt8 32 × Vector UInt8 32 × UInt32 × UInt32 × UInt32 × Int) : CallOut := ⟨.tup [.pv (.st [.arr .u8 32 r.1, .arr .u8 32 r.2.1, .sc .u32 r.2.2.1, .sc .u32 r.2.2.2.1, .sc .u32 r.2.2.2.2.1]), .pv (.sc .i r.2.2.2.2.2)], [], true, []⟩
theorem head_Mine_e (h_0_Prev : Vector UInt8 32) (h_0_Root : Vector UInt8 32) (h_0_Time : UInt32) (h_0_Bits : UInt32) (h_0_Nonce : UInt32) (tries : UInt32) (Q : CallOut → Prop) : evalFnP head_Mine_C head_Mine_lv head_Mine_r head_Mine_hs head_Mine_b [.pv (.st [.arr .u8 32 h_0_Prev, .arr .u8 32 h_0_Root, .sc .u32 h_0_Time, .sc .u32 h_0_Bits, .sc .u32 h_0_Nonce]), .pv (.sc .u32 tries)] [] Q =
    (condP (!(decide ((ofE h_0_Bits) = (0 : Int)))) (Q (head_Mine_enc ((Vector.replicate (32 : Nat) (0 : UInt8)), (Vector.replicate (32 : Nat) (0 : UInt8)), (0 : UInt32), (0 : UInt32), (0 : UInt32), (5 : Int)))) (False)) := by kernel_rfl
theorem head_Mine_w (h_0_Prev : Vector UInt8 32) (h_0_Root : Vector UInt8 32) (h_0_Time : UInt32) (h_0_Bits : UInt32) (h_0_Nonce : UInt32) (tries : UInt32) {r} {Q : CallOut → Prop} (h : head_Mine h_0_Prev h_0_Root h_0_Time h_0_Bits h_0_Nonce tries = some r) (hQ : Q (head_Mine_enc r)) : evalFnP head_Mine_C head_Mine_lv head_Mine_r head_Mine_hs head_Mine_b [.pv (.st [.arr .u8 32 h_0_Prev, .arr .u8 32 h_0_Root, .sc .u32 h_0_Time, .sc .u32 h_0_Bits, .sc .u32 h_0_Nonce]), .pv (.sc .u32 tries)] [] Q :=
  Eq.mpr (head_Mine_e h_0_Prev h_0_Root h_0_Time h_0_Bits h_0_Nonce tries Q) (have h := (head_Mine_q h_0_Prev h_0_Root h_0_Time h_0_Bits h_0_Nonce tries).symm.trans h; cond_ok h (fun h => ret_ok (Q := Q) (e := head_Mine_enc) h hQ) (fun h => no_ok h))
def head_Mine_c : Ans
  | [.pv (.st [.arr .u8 32 h_0_Prev, .arr .u8 32 h_0_Root, .sc .u32 h_0_Time, .sc .u32 h_0_Bits, .sc .u32 h_0_Nonce]), .pv (.sc .u32 tries)], [] => some (some (ofE h_0_Bits ≠ 0), head_Mine_enc ((Vector.replicate 32 0, Vector.replicate 32 0, 0, 0, 0, (5 : Int))))
  | _, _ => none
theorem head_Mine_tok : TblOK Tryd.prog theG head_Mine_T := .cons ⟨by kernel_rfl, target_Of_ok⟩ (.cons ⟨by kernel_rfl, head_Works_ok⟩ (.nil))
theorem head_Mine_ok : FnOK Tryd.prog theG 32 (unW head_Mine_c) := by
  refine FnOK.ofC (T := head_Mine_T) (nt := 26) (np := 0) (nf := false) (hs := head_Mine_hs) (fn := Tryd.f32) (body := head_Mine_b) head_Mine_tok (by kernel_rfl) (by kernel_rfl) (by kernel_rfl) (by kernel_rfl) (c := head_Mine_c) (lv := head_Mine_lv) ?_
  intro xs mem p out h hp
  unfold head_Mine_c at h
  split at h
  · cases h
    exact head_Mine_w _ _ _ _ _ _ (head_Mine_spec _ _ _ _ _ _ hp) rfl
  · cases h
end
end Go.Proofs.YtbdajagcinfeeaaDoor.M

namespace Go.Proofs.YtbdajagcinfeeaaDoor.M
open Go
noncomputable section
set_option maxRecDepth 100000
set_option maxHeartbeats 0
noncomputable def head_Begin_T : Tbl := []
noncomputable def head_Begin_C : CfgW := mkC Tryd.prog theG head_Begin_T 2 0 false
def head_Begin_lv : Nat → List Nat := fun i => []
noncomputable abbrev head_Begin_b : Code := Tryd.f48.body.getD .skip
noncomputable abbrev head_Begin_r : List ResultVar := Tryd.f48.results.toList
def head_Begin_hs : List Nat := []

def head_Begin_enc (r : Vector UInt8 32 × Vector UInt8 32 × UInt32 × UInt32 × UInt32) : CallOut := ⟨.pv (.st [.arr .u8 32 r.1, .arr .u8 32 r.2.1, .sc .u32 r.2.2.1, .sc .u32 r.2.2.2.1, .sc .u32 r.2.2.2.2]), [], true, []⟩
theorem head_Begin_e  (Q : CallOut → Prop) : evalFnP head_Begin_C head_Begin_lv head_Begin_r head_Begin_hs head_Begin_b [] [] Q =
    (Q (head_Begin_enc ((Vector.replicate (32 : Nat) (0 : UInt8)), (Vector.replicate (32 : Nat) (0 : UInt8)), (0 : UInt32), (545259519 : UInt32), (0 : UInt32)))) := by kernel_rfl
theorem head_Begin_w  {Q : CallOut → Prop} (h : Q (head_Begin_enc (head_Begin ))) : evalFnP head_Begin_C head_Begin_lv head_Begin_r head_Begin_hs head_Begin_b [] [] Q :=
  Eq.mpr (head_Begin_e  Q) (have h := Eq.mp (congrArg (fun r => Q (head_Begin_enc r)) (head_Begin_q )) h; h)
def head_Begin_c : Ans
  | [], [] => some (none, head_Begin_enc (head_Begin ))
  | _, _ => none
theorem head_Begin_tok : TblOK Tryd.prog theG head_Begin_T := .nil
theorem head_Begin_ok : FnOK Tryd.prog theG 48 (unW head_Begin_c) := by
  refine FnOK.ofC (T := head_Begin_T) (nt := 2) (np := 0) (nf := false) (hs := head_Begin_hs) (fn := Tryd.f48) (body := head_Begin_b) head_Begin_tok (by kernel_rfl) (by kernel_rfl) (by kernel_rfl) (by kernel_rfl) (c := head_Begin_c) (lv := head_Begin_lv) ?_
  intro xs mem p out h hp
  unfold head_Begin_c at h
  split at h
  · cases h
    exact head_Begin_w  rfl
  · cases h
end
end Go.Proofs.YtbdajagcinfeeaaDoor.M
