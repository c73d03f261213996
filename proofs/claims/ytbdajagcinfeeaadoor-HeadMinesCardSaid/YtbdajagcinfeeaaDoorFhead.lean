/- Part of the proofs: what functions of the program do: plain functions, and the walks that show it. No condition. -/
import Derived.KernelRfl
import Derived.Test.YtbdajagcinfeeaaDoorProg
import Derived.WalkKit
import Derived.Laws.BytesArg
import Derived.Test.YtbdajagcinfeeaaDoorLe
import Derived.Test.YtbdajagcinfeeaaDoorSwords
import Derived.Test.YtbdajagcinfeeaaDoorFends
import Derived.Test.YtbdajagcinfeeaaDoorSshaS
import Derived.Test.YtbdajagcinfeeaaDoorSbigS
import Derived.Test.YtbdajagcinfeeaaDoorSendS
import Derived.Test.YtbdajagcinfeeaaDoorStarS
import Derived.Test.YtbdajagcinfeeaaDoorFsha
import Derived.Test.YtbdajagcinfeeaaDoorFtarget
import Derived.Test.YtbdajagcinfeeaaDoorSheadS
import Derived.Test.YtbdajagcinfeeaaDoorSshaK
set_option linter.unusedVariables false
set_option linter.unusedSimpArgs false
set_option autoImplicit false
namespace Go.Proofs.YtbdajagcinfeeaaDoor.M
open Go
noncomputable section
/-- moneyer/head.nonces -/
def head_nonces (h_0_Prev : Vector UInt8 32) (h_0_Root : Vector UInt8 32) (h_0_Time : UInt32) (h_0_Bits : UInt32) (h_0_Nonce : UInt32) (tries : UInt32) : UInt32 × Vector UInt8 32 × Vector UInt8 32 × UInt32 × UInt32 × UInt32 :=
  (tries, h_0_Prev, h_0_Root, h_0_Time, h_0_Bits, h_0_Nonce)
theorem head_nonces_q (h_0_Prev : Vector UInt8 32) (h_0_Root : Vector UInt8 32) (h_0_Time : UInt32) (h_0_Bits : UInt32) (h_0_Nonce : UInt32) (tries : UInt32) : head_nonces h_0_Prev h_0_Root h_0_Time h_0_Bits h_0_Nonce tries = ((tries, h_0_Prev, h_0_Root, h_0_Time, h_0_Bits, h_0_Nonce)) := by kernel_rfl

end
end Go.Proofs.YtbdajagcinfeeaaDoor.M

namespace Go.Proofs.YtbdajagcinfeeaaDoor.M
open Go
noncomputable section
/-- moneyer/head.low -/
def head_low (n : UInt32) : List UInt8 :=
  (putL (UInt32.toUInt64 n) (4 : Int))
theorem head_low_q (n : UInt32) : head_low n = ((putL (UInt32.toUInt64 n) (4 : Int))) := by kernel_rfl
theorem head_low_spec (n : UInt32) : head_low n = lowY n.toNat 4 := by
  rw [head_low, putL_32]

end
end Go.Proofs.YtbdajagcinfeeaaDoor.M

namespace Go.Proofs.YtbdajagcinfeeaaDoor.M
open Go
noncomputable section
/-- the loop 0 of moneyer/head.Put -/
def head_Put_h0 : Nat → (Vector UInt32 3) → Int → (List UInt8) → Option (List UInt8)
  | 0, _, _, _ => none
  | k + 1, t20, t21, b => bif decide (t21 < (3 : Int)) then (if ((0 : Int) ≤ t21) ∧ (t21 < (3 : Int)) then
        if (((List.length (b ++ (lowY (UInt32.toNat (List.getD (Vector.toList t20) (Int.toNat t21) (0 : UInt32))) (4 : Nat)))) * (1 : Nat)) ≤ (70368744177664 : Nat)) ∧ ((List.length (b ++ (lowY (UInt32.toNat (List.getD (Vector.toList t20) (Int.toNat t21) (0 : UInt32))) (4 : Nat)))) ≤ (70368744177664 : Nat)) then
          head_Put_h0 k t20 (w64 (t21 + (1 : Int))) (b ++ (lowY (UInt32.toNat (List.getD (Vector.toList t20) (Int.toNat t21) (0 : UInt32))) (4 : Nat)))
        else none
      else none)
      else (some b)
theorem head_Put_h0_q (k : Nat) (t20 : Vector UInt32 3) (t21 : Int) (b : List UInt8) : head_Put_h0 (k + 1) t20 t21 b =
  (bif decide (t21 < (3 : Int)) then (if ((0 : Int) ≤ t21) ∧ (t21 < (3 : Int)) then
        if (((List.length (b ++ (lowY (UInt32.toNat (List.getD (Vector.toList t20) (Int.toNat t21) (0 : UInt32))) (4 : Nat)))) * (1 : Nat)) ≤ (70368744177664 : Nat)) ∧ ((List.length (b ++ (lowY (UInt32.toNat (List.getD (Vector.toList t20) (Int.toNat t21) (0 : UInt32))) (4 : Nat)))) ≤ (70368744177664 : Nat)) then
          head_Put_h0 k t20 (w64 (t21 + (1 : Int))) (b ++ (lowY (UInt32.toNat (List.getD (Vector.toList t20) (Int.toNat t21) (0 : UInt32))) (4 : Nat)))
        else none
      else none)
      else (some b)) := by kernel_rfl
/-- moneyer/head.Put -/
def head_Put (k : Nat) (h_0_Prev : Vector UInt8 32) (h_0_Root : Vector UInt8 32) (h_0_Time : UInt32) (h_0_Bits : UInt32) (h_0_Nonce : UInt32) : Option (List UInt8) :=
  if (((List.length ((List.replicate (0 : Nat) (0 : UInt8)) ++ (List.take ((Int.toNat (32 : Int)) - (Int.toNat (0 : Int))) (List.drop (Int.toNat (0 : Int)) (Vector.toList h_0_Prev))))) * (1 : Nat)) ≤ (70368744177664 : Nat)) ∧ ((List.length ((List.replicate (0 : Nat) (0 : UInt8)) ++ (List.take ((Int.toNat (32 : Int)) - (Int.toNat (0 : Int))) (List.drop (Int.toNat (0 : Int)) (Vector.toList h_0_Prev))))) ≤ (70368744177664 : Nat)) then
    if (((List.length (((List.replicate (0 : Nat) (0 : UInt8)) ++ (List.take ((Int.toNat (32 : Int)) - (Int.toNat (0 : Int))) (List.drop (Int.toNat (0 : Int)) (Vector.toList h_0_Prev)))) ++ (List.take ((Int.toNat (32 : Int)) - (Int.toNat (0 : Int))) (List.drop (Int.toNat (0 : Int)) (Vector.toList h_0_Root))))) * (1 : Nat)) ≤ (70368744177664 : Nat)) ∧ ((List.length (((List.replicate (0 : Nat) (0 : UInt8)) ++ (List.take ((Int.toNat (32 : Int)) - (Int.toNat (0 : Int))) (List.drop (Int.toNat (0 : Int)) (Vector.toList h_0_Prev)))) ++ (List.take ((Int.toNat (32 : Int)) - (Int.toNat (0 : Int))) (List.drop (Int.toNat (0 : Int)) (Vector.toList h_0_Root))))) ≤ (70368744177664 : Nat)) then
      head_Put_h0 k (Vector.setIfInBounds (Vector.setIfInBounds (Vector.setIfInBounds (Vector.replicate (3 : Nat) (0 : UInt32)) (0 : Nat) h_0_Time) (1 : Nat) h_0_Bits) (2 : Nat) h_0_Nonce) (0 : Int) (((List.replicate (0 : Nat) (0 : UInt8)) ++ (List.take ((Int.toNat (32 : Int)) - (Int.toNat (0 : Int))) (List.drop (Int.toNat (0 : Int)) (Vector.toList h_0_Prev)))) ++ (List.take ((Int.toNat (32 : Int)) - (Int.toNat (0 : Int))) (List.drop (Int.toNat (0 : Int)) (Vector.toList h_0_Root))))
    else none
  else none
theorem head_Put_q (k : Nat) (h_0_Prev : Vector UInt8 32) (h_0_Root : Vector UInt8 32) (h_0_Time : UInt32) (h_0_Bits : UInt32) (h_0_Nonce : UInt32) : head_Put k h_0_Prev h_0_Root h_0_Time h_0_Bits h_0_Nonce = (if (((List.length ((List.replicate (0 : Nat) (0 : UInt8)) ++ (List.take ((Int.toNat (32 : Int)) - (Int.toNat (0 : Int))) (List.drop (Int.toNat (0 : Int)) (Vector.toList h_0_Prev))))) * (1 : Nat)) ≤ (70368744177664 : Nat)) ∧ ((List.length ((List.replicate (0 : Nat) (0 : UInt8)) ++ (List.take ((Int.toNat (32 : Int)) - (Int.toNat (0 : Int))) (List.drop (Int.toNat (0 : Int)) (Vector.toList h_0_Prev))))) ≤ (70368744177664 : Nat)) then
    if (((List.length (((List.replicate (0 : Nat) (0 : UInt8)) ++ (List.take ((Int.toNat (32 : Int)) - (Int.toNat (0 : Int))) (List.drop (Int.toNat (0 : Int)) (Vector.toList h_0_Prev)))) ++ (List.take ((Int.toNat (32 : Int)) - (Int.toNat (0 : Int))) (List.drop (Int.toNat (0 : Int)) (Vector.toList h_0_Root))))) * (1 : Nat)) ≤ (70368744177664 : Nat)) ∧ ((List.length (((List.replicate (0 : Nat) (0 : UInt8)) ++ (List.take ((Int.toNat (32 : Int)) - (Int.toNat (0 : Int))) (List.drop (Int.toNat (0 : Int)) (Vector.toList h_0_Prev)))) ++ (List.take ((Int.toNat (32 : Int)) - (Int.toNat (0 : Int))) (List.drop (Int.toNat (0 : Int)) (Vector.toList h_0_Root))))) ≤ (70368744177664 : Nat)) then
      head_Put_h0 k (Vector.setIfInBounds (Vector.setIfInBounds (Vector.setIfInBounds (Vector.replicate (3 : Nat) (0 : UInt32)) (0 : Nat) h_0_Time) (1 : Nat) h_0_Bits) (2 : Nat) h_0_Nonce) (0 : Int) (((List.replicate (0 : Nat) (0 : UInt8)) ++ (List.take ((Int.toNat (32 : Int)) - (Int.toNat (0 : Int))) (List.drop (Int.toNat (0 : Int)) (Vector.toList h_0_Prev)))) ++ (List.take ((Int.toNat (32 : Int)) - (Int.toNat (0 : Int))) (List.drop (Int.toNat (0 : Int)) (Vector.toList h_0_Root))))
    else none
  else none) := by kernel_rfl
theorem head_Put_spec (p r : Vector UInt8 32) (t b n : UInt32) : Ev (fun k => head_Put k p r t b n) (headB p r t b n) := by
  have tp : ∀ v : Vector UInt8 32, List.take (Int.toNat (32 : Int) - Int.toNat (0 : Int)) (List.drop (Int.toNat (0 : Int)) (Vector.toList v)) = Vector.toList v := take32
  have l0 := lowY_len t.toNat 4
  have l1 := lowY_len b.toNat 4
  have l2 := lowY_len n.toNat 4
  have g0 : List.getD (Vector.toList (Vector.setIfInBounds (Vector.setIfInBounds (Vector.setIfInBounds (Vector.replicate 3 (0 : UInt32)) 0 t) 1 b) 2 n)) 0 0 = t := rfl
  have g1 : List.getD (Vector.toList (Vector.setIfInBounds (Vector.setIfInBounds (Vector.setIfInBounds (Vector.replicate 3 (0 : UInt32)) 0 t) 1 b) 2 n)) 1 0 = b := rfl
  have g2 : List.getD (Vector.toList (Vector.setIfInBounds (Vector.setIfInBounds (Vector.setIfInBounds (Vector.replicate 3 (0 : UInt32)) 0 t) 1 b) 2 n)) 2 0 = n := rfl
  have w1 : w64 ((0 : Int) + 1) = 1 := by decide
  have w2 : w64 ((1 : Int) + 1) = 2 := by decide
  have w3 : w64 ((2 : Int) + 1) = 3 := by decide
  refine ⟨4, ?_⟩
  show head_Put 4 p r t b n = _
  have hp : (Vector.toList p).length = 32 := by simp
  have hr : (Vector.toList r).length = 32 := by simp
  rw [head_Put, tp, tp, List.replicate_zero, List.nil_append, if_pos (by omega), if_pos (by rw [List.length_append]; omega)]
  rw [head_Put_h0, decide_eq_true (by decide), cond_true, if_pos (by decide), show Int.toNat 0 = 0 from rfl, g0, if_pos (by rw [List.length_append, List.length_append]; omega), w1]
  rw [head_Put_h0, decide_eq_true (by decide), cond_true, if_pos (by decide), show Int.toNat 1 = 1 from rfl, g1, if_pos (by rw [List.length_append, List.length_append, List.length_append]; omega), w2]
  rw [head_Put_h0, decide_eq_true (by decide), cond_true, if_pos (by decide), show Int.toNat 2 = 2 from rfl, g2, if_pos (by rw [List.length_append, List.length_append, List.length_append, List.length_append]; omega), w3]
  rw [head_Put_h0, decide_eq_false (by decide), cond_false, headB_eq]

end
end Go.Proofs.YtbdajagcinfeeaaDoor.M

namespace Go.Proofs.YtbdajagcinfeeaaDoor.M
open Go
noncomputable section
/-- moneyer/head.Id -/
def head_Id (h_0_Prev : Vector UInt8 32) (h_0_Root : Vector UInt8 32) (h_0_Time : UInt32) (h_0_Bits : UInt32) (h_0_Nonce : UInt32) : Option (Vector UInt8 32) :=
  if (List.length (headB h_0_Prev h_0_Root h_0_Time h_0_Bits h_0_Nonce)) ≤ (1099511627776 : Nat) then
    some (shaSum (Vector.toList (shaSum (headB h_0_Prev h_0_Root h_0_Time h_0_Bits h_0_Nonce))))
  else none
theorem head_Id_q (h_0_Prev : Vector UInt8 32) (h_0_Root : Vector UInt8 32) (h_0_Time : UInt32) (h_0_Bits : UInt32) (h_0_Nonce : UInt32) : head_Id h_0_Prev h_0_Root h_0_Time h_0_Bits h_0_Nonce = (if (List.length (headB h_0_Prev h_0_Root h_0_Time h_0_Bits h_0_Nonce)) ≤ (1099511627776 : Nat) then
    some (shaSum (Vector.toList (shaSum (headB h_0_Prev h_0_Root h_0_Time h_0_Bits h_0_Nonce))))
  else none) := by kernel_rfl
theorem head_Id_spec (p r : Vector UInt8 32) (t b n : UInt32) : head_Id p r t b n = some (idV p r t b n) := by
  rw [head_Id, if_pos (by rw [headB_len]; omega), idV_eq]

end
end Go.Proofs.YtbdajagcinfeeaaDoor.M

namespace Go.Proofs.YtbdajagcinfeeaaDoor.M
open Go
noncomputable section
/-- moneyer/head.Works -/
def head_Works (h_0_Prev : Vector UInt8 32) (h_0_Root : Vector UInt8 32) (h_0_Time : UInt32) (h_0_Bits : UInt32) (h_0_Nonce : UInt32) : Bool :=
  (meetsS (idV h_0_Prev h_0_Root h_0_Time h_0_Bits h_0_Nonce) h_0_Bits)
theorem head_Works_q (h_0_Prev : Vector UInt8 32) (h_0_Root : Vector UInt8 32) (h_0_Time : UInt32) (h_0_Bits : UInt32) (h_0_Nonce : UInt32) : head_Works h_0_Prev h_0_Root h_0_Time h_0_Bits h_0_Nonce = ((meetsS (idV h_0_Prev h_0_Root h_0_Time h_0_Bits h_0_Nonce) h_0_Bits)) := by kernel_rfl
theorem head_Works_spec (p r : Vector UInt8 32) (t b n : UInt32) : head_Works p r t b n = meetsS (idV p r t b n) b := by
  rw [head_Works]

end
end Go.Proofs.YtbdajagcinfeeaaDoor.M

namespace Go.Proofs.YtbdajagcinfeeaaDoor.M
open Go
noncomputable section
/-- the loop over a function of moneyer/head.Mine -/
def head_Mine_r0 : List ((Vector UInt8 32) × (Vector UInt8 32) × UInt32 × UInt32 × UInt32) → (Vector UInt8 32) → (Vector UInt8 32) → UInt32 → UInt32 → UInt32 → Int → Option (Vector UInt8 32 × Vector UInt8 32 × UInt32 × UInt32 × UInt32 × Int)
  | [], t4, t41, t42, t43, t44, t5 => some ((Vector.replicate (32 : Nat) (0 : UInt8)), (Vector.replicate (32 : Nat) (0 : UInt8)), (0 : UInt32), (0 : UInt32), (0 : UInt32), (6 : Int))
  | (p, r, t, b, n) :: es, t4, t41, t42, t43, t44, t5 => bif meetsS (idV p r t b n) b then (some (p, r, t, b, n, (0 : Int)))
      else (head_Mine_r0 es t4 t41 t42 t43 t44 t5)
theorem head_Mine_r0_n (t4 : Vector UInt8 32) (t41 : Vector UInt8 32) (t42 : UInt32) (t43 : UInt32) (t44 : UInt32) (t5 : Int) : head_Mine_r0 [] t4 t41 t42 t43 t44 t5 =
  (some ((Vector.replicate (32 : Nat) (0 : UInt8)), (Vector.replicate (32 : Nat) (0 : UInt8)), (0 : UInt32), (0 : UInt32), (0 : UInt32), (6 : Int))) := by kernel_rfl
theorem head_Mine_r0_c (p : Vector UInt8 32) (r : Vector UInt8 32) (t : UInt32) (b : UInt32) (n : UInt32) (es : List ((Vector UInt8 32) × (Vector UInt8 32) × UInt32 × UInt32 × UInt32)) (t4 : Vector UInt8 32) (t41 : Vector UInt8 32) (t42 : UInt32) (t43 : UInt32) (t44 : UInt32) (t5 : Int) : head_Mine_r0 ((p, r, t, b, n) :: es) t4 t41 t42 t43 t44 t5 =
  (bif meetsS (idV p r t b n) b then (some (p, r, t, b, n, (0 : Int)))
      else (head_Mine_r0 es t4 t41 t42 t43 t44 t5)) := by kernel_rfl
/-- moneyer/head.Mine -/
def head_Mine (h_0_Prev : Vector UInt8 32) (h_0_Root : Vector UInt8 32) (h_0_Time : UInt32) (h_0_Bits : UInt32) (h_0_Nonce : UInt32) (tries : UInt32) : Option (Vector UInt8 32 × Vector UInt8 32 × UInt32 × UInt32 × UInt32 × Int) :=
  bif !(decide ((ofE h_0_Bits) = (0 : Int))) then (some ((Vector.replicate (32 : Nat) (0 : UInt8)), (Vector.replicate (32 : Nat) (0 : UInt8)), (0 : UInt32), (0 : UInt32), (0 : UInt32), (5 : Int)))
    else (head_Mine_r0 (nonL h_0_Prev h_0_Root h_0_Time h_0_Bits h_0_Nonce tries) (Vector.replicate (32 : Nat) (0 : UInt8)) (Vector.replicate (32 : Nat) (0 : UInt8)) (0 : UInt32) (0 : UInt32) (0 : UInt32) (0 : Int))
theorem head_Mine_q (h_0_Prev : Vector UInt8 32) (h_0_Root : Vector UInt8 32) (h_0_Time : UInt32) (h_0_Bits : UInt32) (h_0_Nonce : UInt32) (tries : UInt32) : head_Mine h_0_Prev h_0_Root h_0_Time h_0_Bits h_0_Nonce tries = (bif !(decide ((ofE h_0_Bits) = (0 : Int))) then (some ((Vector.replicate (32 : Nat) (0 : UInt8)), (Vector.replicate (32 : Nat) (0 : UInt8)), (0 : UInt32), (0 : UInt32), (0 : UInt32), (5 : Int)))
    else (head_Mine_r0 (nonL h_0_Prev h_0_Root h_0_Time h_0_Bits h_0_Nonce tries) (Vector.replicate (32 : Nat) (0 : UInt8)) (Vector.replicate (32 : Nat) (0 : UInt8)) (0 : UInt32) (0 : UInt32) (0 : UInt32) (0 : Int))) := by kernel_rfl
theorem head_Mine_r0_spec (p r : Vector UInt8 32) (t b : UInt32) (t4 t41 : Vector UInt8 32) (t42 t43 t44 : UInt32) (t5 : Int) : ∀ (m : Nat) (n : UInt32),
    head_Mine_r0 ((List.range m).map fun i => (p, r, t, b, n + UInt32.ofNat i)) t4 t41 t42 t43 t44 t5 = (match mineO p r t b n m with
      | some x => some (p, r, t, b, x, (0 : Int))
      | none => some (Vector.replicate 32 0, Vector.replicate 32 0, 0, 0, 0, (6 : Int)))
  | 0, n => by
    rw [mineO]
    exact head_Mine_r0_n _ _ _ _ _ _
  | m + 1, n => by
    rw [range_up, head_Mine_r0_c, mineO]
    cases meetsS (idV p r t b n) b with
    | true => rfl
    | false => rw [cond_false, cond_false]; exact head_Mine_r0_spec p r t b t4 t41 t42 t43 t44 t5 m (n + 1)
theorem head_Mine_spec (p r : Vector UInt8 32) (t b n k : UInt32) : head_Mine p r t b n k = some (mnV p r t b n k p, mnV p r t b n k r, mnW p r t b n k t, mnW p r t b n k b, mnN p r t b n k, mnE p r t b n k) := by
  rw [head_Mine_q]
  by_cases h : ofE b = 0
  · rw [decide_eq_true h]
    show head_Mine_r0 (nonL p r t b n k) _ _ _ _ _ _ = _
    rw [nonL, head_Mine_r0_spec]
    cases hm : mineO p r t b n k.toNat with
    | none => exact congrArg some (mn_six h hm)
    | some x => exact congrArg some (mn_ok h hm)
  · rw [decide_eq_false h]
    exact congrArg some (mn_five h)

end
end Go.Proofs.YtbdajagcinfeeaaDoor.M

namespace Go.Proofs.YtbdajagcinfeeaaDoor.M
open Go
noncomputable section
/-- moneyer/head.Get$1 -/
def head_Get1 (at_0 : Int) (l : List UInt8) : Option (UInt32) :=
  if (List.length l) ≤ (140737488351232 : Nat) then
    some (UInt64.toUInt32 (getN l at_0 (4 : Int)))
  else none
theorem head_Get1_q (at_0 : Int) (l : List UInt8) : head_Get1 at_0 l = (if (List.length l) ≤ (140737488351232 : Nat) then
    some (UInt64.toUInt32 (getN l at_0 (4 : Int)))
  else none) := by kernel_rfl
theorem head_Get1_spec (at_ : Int) (l : List UInt8) (hp : l.length ≤ 140737488351232) : head_Get1 at_ l = some (UInt64.toUInt32 (getN l at_ 4)) := by
  rw [head_Get1, if_pos hp]

end
end Go.Proofs.YtbdajagcinfeeaaDoor.M

namespace Go.Proofs.YtbdajagcinfeeaaDoor.M
open Go
noncomputable section
/-- moneyer/head.Get -/
def head_Get (b : List UInt8) (at_1 : Int) : Option (Vector UInt8 32 × Vector UInt8 32 × UInt32 × UInt32 × UInt32 × Int × Int) :=
  if ((List.length b) ≤ (140737488351232 : Nat)) ∧ ((76 : Int) ≤ (70368744177664 : Int)) then
    bif !(decide ((partE b at_1 (76 : Int)) = (0 : Int))) then (some ((Vector.replicate (32 : Nat) (0 : UInt8)), (Vector.replicate (32 : Nat) (0 : UInt8)), (0 : UInt32), (0 : UInt32), (0 : UInt32), (0 : Int), (partE b at_1 (76 : Int))))
      else (if ((0 : Int) ≤ (0 : Int)) ∧ (((0 : Int) ≤ (32 : Int)) ∧ ((32 : Int) ≤ (((List.length (partL b at_1 (76 : Int))) : Nat) : Int))) then
        if ((32 : Nat) ≤ (List.length (List.take ((Int.toNat (32 : Int)) - (Int.toNat (0 : Int))) (List.drop (Int.toNat (0 : Int)) (partL b at_1 (76 : Int)))))) ∧ ((0 : Nat) < (32 : Nat)) then
          if ((0 : Int) ≤ (32 : Int)) ∧ (((32 : Int) ≤ (64 : Int)) ∧ ((64 : Int) ≤ (((List.length (partL b at_1 (76 : Int))) : Nat) : Int))) then
            if ((32 : Nat) ≤ (List.length (List.take ((Int.toNat (64 : Int)) - (Int.toNat (32 : Int))) (List.drop (Int.toNat (32 : Int)) (partL b at_1 (76 : Int)))))) ∧ ((0 : Nat) < (32 : Nat)) then
              if (List.length (partL b at_1 (76 : Int))) ≤ (140737488351232 : Nat) then
                some ((Vector.ofFn (fun (z3 : Fin 32) => (List.getD (List.take ((Int.toNat (32 : Int)) - (Int.toNat (0 : Int))) (List.drop (Int.toNat (0 : Int)) (partL b at_1 (76 : Int)))) ((0 : Nat) + (Fin.val z3)) (0 : UInt8)))), (Vector.ofFn (fun (z3 : Fin 32) => (List.getD (List.take ((Int.toNat (64 : Int)) - (Int.toNat (32 : Int))) (List.drop (Int.toNat (32 : Int)) (partL b at_1 (76 : Int)))) ((0 : Nat) + (Fin.val z3)) (0 : UInt8)))), (UInt64.toUInt32 (getN (partL b at_1 (76 : Int)) (64 : Int) (4 : Int))), (UInt64.toUInt32 (getN (partL b at_1 (76 : Int)) (68 : Int) (4 : Int))), (UInt64.toUInt32 (getN (partL b at_1 (76 : Int)) (72 : Int) (4 : Int))), (w64 (at_1 + (76 : Int))), (0 : Int))
              else none
            else none
          else none
        else none
      else none)
  else none
theorem head_Get_q (b : List UInt8) (at_1 : Int) : head_Get b at_1 = (if ((List.length b) ≤ (140737488351232 : Nat)) ∧ ((76 : Int) ≤ (70368744177664 : Int)) then
    bif !(decide ((partE b at_1 (76 : Int)) = (0 : Int))) then (some ((Vector.replicate (32 : Nat) (0 : UInt8)), (Vector.replicate (32 : Nat) (0 : UInt8)), (0 : UInt32), (0 : UInt32), (0 : UInt32), (0 : Int), (partE b at_1 (76 : Int))))
      else (if ((0 : Int) ≤ (0 : Int)) ∧ (((0 : Int) ≤ (32 : Int)) ∧ ((32 : Int) ≤ (((List.length (partL b at_1 (76 : Int))) : Nat) : Int))) then
        if ((32 : Nat) ≤ (List.length (List.take ((Int.toNat (32 : Int)) - (Int.toNat (0 : Int))) (List.drop (Int.toNat (0 : Int)) (partL b at_1 (76 : Int)))))) ∧ ((0 : Nat) < (32 : Nat)) then
          if ((0 : Int) ≤ (32 : Int)) ∧ (((32 : Int) ≤ (64 : Int)) ∧ ((64 : Int) ≤ (((List.length (partL b at_1 (76 : Int))) : Nat) : Int))) then
            if ((32 : Nat) ≤ (List.length (List.take ((Int.toNat (64 : Int)) - (Int.toNat (32 : Int))) (List.drop (Int.toNat (32 : Int)) (partL b at_1 (76 : Int)))))) ∧ ((0 : Nat) < (32 : Nat)) then
              if (List.length (partL b at_1 (76 : Int))) ≤ (140737488351232 : Nat) then
                some ((Vector.ofFn (fun (z3 : Fin 32) => (List.getD (List.take ((Int.toNat (32 : Int)) - (Int.toNat (0 : Int))) (List.drop (Int.toNat (0 : Int)) (partL b at_1 (76 : Int)))) ((0 : Nat) + (Fin.val z3)) (0 : UInt8)))), (Vector.ofFn (fun (z3 : Fin 32) => (List.getD (List.take ((Int.toNat (64 : Int)) - (Int.toNat (32 : Int))) (List.drop (Int.toNat (32 : Int)) (partL b at_1 (76 : Int)))) ((0 : Nat) + (Fin.val z3)) (0 : UInt8)))), (UInt64.toUInt32 (getN (partL b at_1 (76 : Int)) (64 : Int) (4 : Int))), (UInt64.toUInt32 (getN (partL b at_1 (76 : Int)) (68 : Int) (4 : Int))), (UInt64.toUInt32 (getN (partL b at_1 (76 : Int)) (72 : Int) (4 : Int))), (w64 (at_1 + (76 : Int))), (0 : Int))
              else none
            else none
          else none
        else none
      else none)
  else none) := by kernel_rfl
theorem head_Get_spec (b : List UInt8) (a : Int) (hp : b.length ≤ 140737488351232) : head_Get b a = some (hgP b a, hgR b a, hgT b a, hgB b a, hgN b a, hgI b a, partE b a 76) := by
  rw [head_Get, if_pos ⟨hp, by decide⟩, hgP_eq, hgR_eq, hgT_eq, hgB_eq, hgN_eq, hgI_eq]
  by_cases h : partE b a 76 = 0
  · have hl : (partL b a 76).length = 76 := partL_len h
    simp only [if_pos h]
    rw [decide_eq_true h, h]
    simp only [Bool.not_true, cond_false]
    generalize partL b a 76 = l at *
    have e1 : (Vector.ofFn fun z : Fin 32 => List.getD (List.take (Int.toNat (32 : Int) - Int.toNat (0 : Int)) (List.drop (Int.toNat (0 : Int)) l)) (0 + z.val) 0) = gP l := by
      unfold gP
      congr 1
      funext z
      rw [Nat.zero_add]
      have := part_get l 0 32 z.val z.isLt
      rw [Nat.zero_add] at this
      exact this
    have e2 : (Vector.ofFn fun z : Fin 32 => List.getD (List.take (Int.toNat (64 : Int) - Int.toNat (32 : Int)) (List.drop (Int.toNat (32 : Int)) l)) (0 + z.val) 0) = gR l := by
      unfold gR
      congr 1
      funext z
      rw [Nat.zero_add]
      exact part_get l 32 32 z.val z.isLt
    rw [if_pos ⟨by decide, by decide, by omega⟩, if_pos ⟨by simp; omega, by decide⟩, if_pos ⟨by decide, by decide, by omega⟩, if_pos ⟨by simp; omega, by decide⟩, if_pos (by omega)]
    rw [← e1, ← e2]
  · simp only [if_neg h]
    rw [decide_eq_false h]
    rfl

end
end Go.Proofs.YtbdajagcinfeeaaDoor.M

namespace Go.Proofs.YtbdajagcinfeeaaDoor.M
open Go
noncomputable section
/-- moneyer/head.Read -/
def head_Read (b : List UInt8) : Option (Vector UInt8 32 × Vector UInt8 32 × UInt32 × UInt32 × UInt32 × Int) :=
  if (List.length b) ≤ (140737488351232 : Nat) then
    bif eqb (decide ((partE b (0 : Int) (76 : Int)) = (0 : Int))) true then (bif bif true then (decide ((hgI b (0 : Int)) < (((List.length b) : Nat) : Int))) else false then (some ((Vector.replicate (32 : Nat) (0 : UInt8)), (Vector.replicate (32 : Nat) (0 : UInt8)), (0 : UInt32), (0 : UInt32), (0 : UInt32), (5 : Int)))
        else (bif !(decide ((partE b (0 : Int) (76 : Int)) = (0 : Int))) then (some ((Vector.replicate (32 : Nat) (0 : UInt8)), (Vector.replicate (32 : Nat) (0 : UInt8)), (0 : UInt32), (0 : UInt32), (0 : UInt32), (partE b (0 : Int) (76 : Int))))
          else (some ((hgP b (0 : Int)), (hgR b (0 : Int)), (hgT b (0 : Int)), (hgB b (0 : Int)), (hgN b (0 : Int)), (0 : Int)))))
      else (bif !(decide ((partE b (0 : Int) (76 : Int)) = (0 : Int))) then (some ((Vector.replicate (32 : Nat) (0 : UInt8)), (Vector.replicate (32 : Nat) (0 : UInt8)), (0 : UInt32), (0 : UInt32), (0 : UInt32), (partE b (0 : Int) (76 : Int))))
        else (some ((hgP b (0 : Int)), (hgR b (0 : Int)), (hgT b (0 : Int)), (hgB b (0 : Int)), (hgN b (0 : Int)), (0 : Int))))
  else none
theorem head_Read_q (b : List UInt8) : head_Read b = (if (List.length b) ≤ (140737488351232 : Nat) then
    bif eqb (decide ((partE b (0 : Int) (76 : Int)) = (0 : Int))) true then (bif bif true then (decide ((hgI b (0 : Int)) < (((List.length b) : Nat) : Int))) else false then (some ((Vector.replicate (32 : Nat) (0 : UInt8)), (Vector.replicate (32 : Nat) (0 : UInt8)), (0 : UInt32), (0 : UInt32), (0 : UInt32), (5 : Int)))
        else (bif !(decide ((partE b (0 : Int) (76 : Int)) = (0 : Int))) then (some ((Vector.replicate (32 : Nat) (0 : UInt8)), (Vector.replicate (32 : Nat) (0 : UInt8)), (0 : UInt32), (0 : UInt32), (0 : UInt32), (partE b (0 : Int) (76 : Int))))
          else (some ((hgP b (0 : Int)), (hgR b (0 : Int)), (hgT b (0 : Int)), (hgB b (0 : Int)), (hgN b (0 : Int)), (0 : Int)))))
      else (bif !(decide ((partE b (0 : Int) (76 : Int)) = (0 : Int))) then (some ((Vector.replicate (32 : Nat) (0 : UInt8)), (Vector.replicate (32 : Nat) (0 : UInt8)), (0 : UInt32), (0 : UInt32), (0 : UInt32), (partE b (0 : Int) (76 : Int))))
        else (some ((hgP b (0 : Int)), (hgR b (0 : Int)), (hgT b (0 : Int)), (hgB b (0 : Int)), (hgN b (0 : Int)), (0 : Int))))
  else none) := by kernel_rfl
theorem hgI_0 {b : List UInt8} (h : partE b 0 76 = 0) : hgI b 0 = 76 := by rw [hgI_eq, if_pos h]; decide
theorem head_Read_spec (b : List UInt8) (hp : b.length ≤ 140737488351232) : head_Read b = some (rdV b (hgP b 0), rdV b (hgR b 0), rdW b (hgT b 0), rdW b (hgB b 0), rdW b (hgN b 0), rdE b) := by
  rw [head_Read, if_pos hp]
  by_cases h : partE b 0 76 = 0
  · rw [decide_eq_true h, hgI_0 h]
    by_cases g : 76 < b.length
    · have e : rdE b = 5 := by rw [rdE_eq, if_pos ⟨h, g⟩]
      rw [rdV_eq, rdV_eq, rdW_eq, rdW_eq, rdW_eq, e, decide_eq_true (p := (76 : Int) < ((b.length : Nat) : Int)) (by omega)]
      rfl
    · have e : rdE b = 0 := by rw [rdE_eq, if_neg (fun q => g q.2), h]
      rw [rdV_eq, rdV_eq, rdW_eq, rdW_eq, rdW_eq, e, decide_eq_false (p := (76 : Int) < ((b.length : Nat) : Int)) (by omega)]
      rfl
  · have e : rdE b = partE b 0 76 := by rw [rdE_eq, if_neg (fun q => h q.1)]
    rw [rdV_eq, rdV_eq, rdW_eq, rdW_eq, rdW_eq, e, if_neg h, if_neg h, if_neg h, if_neg h, if_neg h, decide_eq_false h]
    rfl

end
end Go.Proofs.YtbdajagcinfeeaaDoor.M

namespace Go.Proofs.YtbdajagcinfeeaaDoor.M
open Go
noncomputable section
/-- moneyer/head.Begin -/
def head_Begin  : Vector UInt8 32 × Vector UInt8 32 × UInt32 × UInt32 × UInt32 :=
  ((Vector.replicate (32 : Nat) (0 : UInt8)), (Vector.replicate (32 : Nat) (0 : UInt8)), (0 : UInt32), (545259519 : UInt32), (0 : UInt32))
theorem head_Begin_q  : head_Begin  = (((Vector.replicate (32 : Nat) (0 : UInt8)), (Vector.replicate (32 : Nat) (0 : UInt8)), (0 : UInt32), (545259519 : UInt32), (0 : UInt32))) := by kernel_rfl

end
end Go.Proofs.YtbdajagcinfeeaaDoor.M

namespace Go.Proofs.YtbdajagcinfeeaaDoor.M
open Go
noncomputable section
set_option maxRecDepth 100000
set_option maxHeartbeats 0
noncomputable def head_nonces_T : Tbl := []
noncomputable def head_nonces_C : CfgW := mkC Tryd.prog theG head_nonces_T 6 0 false
def head_nonces_lv : Nat → List Nat := fun i => []
noncomputable abbrev head_nonces_b : Code := Tryd.f55.body.getD .skip
noncomputable abbrev head_nonces_r : List ResultVar := Tryd.f55.results.toList
def head_nonces_hs : List Nat := []

def head_nonces_enc (r : UInt32 × Vector UInt8 32 × Vector UInt8 32 × UInt32 × UInt32 × UInt32) : CallOut := ⟨.fn 73 [.p 60000 [], .p 60001 []], [(60000, .box (.pv (.sc .u32 r.1))), (60001, .box (.pv (.st [.arr .u8 32 r.2.1, .arr .u8 32 r.2.2.1, .sc .u32 r.2.2.2.1, .sc .u32 r.2.2.2.2.1, .sc .u32 r.2.2.2.2.2])))], true, []⟩
theorem head_nonces_e (h_0_Prev : Vector UInt8 32) (h_0_Root : Vector UInt8 32) (h_0_Time : UInt32) (h_0_Bits : UInt32) (h_0_Nonce : UInt32) (tries : UInt32) (Q : CallOut → Prop) : evalFnP head_nonces_C head_nonces_lv head_nonces_r head_nonces_hs head_nonces_b [.pv (.st [.arr .u8 32 h_0_Prev, .arr .u8 32 h_0_Root, .sc .u32 h_0_Time, .sc .u32 h_0_Bits, .sc .u32 h_0_Nonce]), .pv (.sc .u32 tries)] [] Q =
    (Q (head_nonces_enc (tries, h_0_Prev, h_0_Root, h_0_Time, h_0_Bits, h_0_Nonce))) := by kernel_rfl
theorem head_nonces_w (h_0_Prev : Vector UInt8 32) (h_0_Root : Vector UInt8 32) (h_0_Time : UInt32) (h_0_Bits : UInt32) (h_0_Nonce : UInt32) (tries : UInt32) {Q : CallOut → Prop} (h : Q (head_nonces_enc (head_nonces h_0_Prev h_0_Root h_0_Time h_0_Bits h_0_Nonce tries))) : evalFnP head_nonces_C head_nonces_lv head_nonces_r head_nonces_hs head_nonces_b [.pv (.st [.arr .u8 32 h_0_Prev, .arr .u8 32 h_0_Root, .sc .u32 h_0_Time, .sc .u32 h_0_Bits, .sc .u32 h_0_Nonce]), .pv (.sc .u32 tries)] [] Q :=
  Eq.mpr (head_nonces_e h_0_Prev h_0_Root h_0_Time h_0_Bits h_0_Nonce tries Q) (have h := Eq.mp (congrArg (fun r => Q (head_nonces_enc r)) (head_nonces_q h_0_Prev h_0_Root h_0_Time h_0_Bits h_0_Nonce tries)) h; h)
def head_nonces_c : Ans
  | [.pv (.st [.arr .u8 32 h_0_Prev, .arr .u8 32 h_0_Root, .sc .u32 h_0_Time, .sc .u32 h_0_Bits, .sc .u32 h_0_Nonce]), .pv (.sc .u32 tries)], [] => some (none, head_nonces_enc (head_nonces h_0_Prev h_0_Root h_0_Time h_0_Bits h_0_Nonce tries))
  | _, _ => none
theorem head_nonces_tok : TblOK Tryd.prog theG head_nonces_T := .nil
theorem head_nonces_ok : FnOK Tryd.prog theG 55 (unW head_nonces_c) := by
  refine FnOK.ofC (T := head_nonces_T) (nt := 6) (np := 0) (mv := []) (nf := false) (hs := head_nonces_hs) (fn := Tryd.f55) (body := head_nonces_b) head_nonces_tok (by kernel_rfl) (by kernel_rfl) (by kernel_rfl) (by kernel_rfl) (c := head_nonces_c) (lv := head_nonces_lv) ?_
  intro xs mem p out h hp
  unfold head_nonces_c at h
  split at h
  · cases h
    exact head_nonces_w _ _ _ _ _ _ rfl
  · cases h
end
end Go.Proofs.YtbdajagcinfeeaaDoor.M

namespace Go.Proofs.YtbdajagcinfeeaaDoor.M
open Go
noncomputable section
set_option maxRecDepth 100000
set_option maxHeartbeats 0
noncomputable def head_low_T : Tbl := [(59, [], ends_Put_c)]
noncomputable def head_low_C : CfgW := mkC Tryd.prog theG head_low_T 12 0 false
def head_low_lv : Nat → List Nat := fun i => []
noncomputable abbrev head_low_b : Code := Tryd.f43.body.getD .skip
noncomputable abbrev head_low_r : List ResultVar := Tryd.f43.results.toList
def head_low_hs : List Nat := []

def head_low_enc (r : List UInt8) : CallOut := ⟨.o 60000, [(60000, .row (.s .u8 r) false)], true, []⟩
theorem head_low_e (n : UInt32) (Q : CallOut → Prop) : evalFnP head_low_C head_low_lv head_low_r head_low_hs head_low_b [.pv (.sc .u32 n)] [] Q =
    (Q (head_low_enc (putL (UInt32.toUInt64 n) (4 : Int)))) := by kernel_rfl
theorem head_low_w (n : UInt32) {Q : CallOut → Prop} (h : Q (head_low_enc (head_low n))) : evalFnP head_low_C head_low_lv head_low_r head_low_hs head_low_b [.pv (.sc .u32 n)] [] Q :=
  Eq.mpr (head_low_e n Q) (have h := Eq.mp (congrArg (fun r => Q (head_low_enc r)) (head_low_q n)) h; h)
def head_low_c : Ans
  | [.pv (.sc .u32 n)], [] => some (none, head_low_enc (lowY n.toNat 4))
  | _, _ => none
theorem head_low_tok : TblOK Tryd.prog theG head_low_T := .cons ⟨by kernel_rfl, ends_Put_ok⟩ (.nil)
theorem head_low_ok : FnOK Tryd.prog theG 43 (unW head_low_c) := by
  refine FnOK.ofC (T := head_low_T) (nt := 12) (np := 0) (mv := []) (nf := false) (hs := head_low_hs) (fn := Tryd.f43) (body := head_low_b) head_low_tok (by kernel_rfl) (by kernel_rfl) (by kernel_rfl) (by kernel_rfl) (c := head_low_c) (lv := head_low_lv) ?_
  intro xs mem p out h hp
  unfold head_low_c at h
  split at h
  · cases h
    exact head_low_w _ (congrArg head_low_enc (head_low_spec _))
  · cases h
end
end Go.Proofs.YtbdajagcinfeeaaDoor.M

namespace Go.Proofs.YtbdajagcinfeeaaDoor.M
open Go
noncomputable section
set_option maxRecDepth 100000
set_option maxHeartbeats 0
noncomputable def head_Put_T : Tbl := [(43, [], head_low_c)]
noncomputable def head_Put_C : CfgW := mkC Tryd.prog theG head_Put_T 30 0 false
def head_Put_lv : Nat → List Nat := fun i => bif Nat.beq i 0 then [3, 20, 21] else []
noncomputable abbrev head_Put_b : Code := Tryd.f21.body.getD .skip
noncomputable abbrev head_Put_r : List ResultVar := Tryd.f21.results.toList
def head_Put_hs : List Nat := []

def head_Put_enc (r : List UInt8) : CallOut := ⟨.o 60000, [(60000, .row (.s .u8 r) false)], true, []⟩
def head_Put_s0 (t20 : Vector UInt32 3) (t21 : Int) (b : List UInt8) : St := ⟨[(3, .o 60000), (20, .pv (.arr .u32 3 t20)), (21, .pv (.sc .i t21))], [(60000, .row (.s .u8 b) false)]⟩
theorem head_Put_g0 (t20 : Vector UInt32 3) (t21 : Int) (b : List UInt8) (Q : CallOut → Prop) : headRound head_Put_C head_Put_lv [true, true, true, false, true, false] head_Put_b (head_Put_s0 t20 t21 b) (fnK head_Put_C head_Put_r head_Put_hs Q) =
    (condP (decide (t21 < (3 : Int))) ((((0 : Int) ≤ t21) ∧ (t21 < (3 : Int))) ∧ (((((List.length (b ++ (lowY (UInt32.toNat (List.getD (Vector.toList t20) (Int.toNat t21) (0 : UInt32))) (4 : Nat)))) * (1 : Nat)) ≤ (70368744177664 : Nat)) ∧ ((List.length (b ++ (lowY (UInt32.toNat (List.getD (Vector.toList t20) (Int.toNat t21) (0 : UInt32))) (4 : Nat)))) ≤ (70368744177664 : Nat))) ∧ (headP head_Put_C head_Put_lv [true, true, true, false, true, false] head_Put_b (head_Put_s0 t20 (w64 (t21 + (1 : Int))) (b ++ (lowY (UInt32.toNat (List.getD (Vector.toList t20) (Int.toNat t21) (0 : UInt32))) (4 : Nat)))) (fnK head_Put_C head_Put_r head_Put_hs Q)))) (Q (head_Put_enc b))) := by kernel_rfl
theorem head_Put_k0 {r : List UInt8} {Q : CallOut → Prop} (hQ : Q (head_Put_enc r)) : ∀ k : Nat, (∀ (t20 : Vector UInt32 3) (t21 : Int) (b : List UInt8), head_Put_h0 k t20 t21 b = some r → headP head_Put_C head_Put_lv [true, true, true, false, true, false] head_Put_b (head_Put_s0 t20 t21 b) (fnK head_Put_C head_Put_r head_Put_hs Q))
  | 0 => fun _ _ _ h => no_ok h
  | k + 1 => fun t20 t21 b h => headP_step (Eq.mpr (head_Put_g0 t20 t21 b Q) (have h := (head_Put_h0_q k t20 t21 b).symm.trans h; cond_ok h (fun h => ite_ok h fun hc0 h => ite_ok h fun hc1 h => (head_Put_k0 hQ k) _ _ _ h) (fun h => ret_ok (Q := Q) (e := head_Put_enc) h hQ)))
theorem head_Put_e (h_0_Prev : Vector UInt8 32) (h_0_Root : Vector UInt8 32) (h_0_Time : UInt32) (h_0_Bits : UInt32) (h_0_Nonce : UInt32) (Q : CallOut → Prop) : evalFnP head_Put_C head_Put_lv head_Put_r head_Put_hs head_Put_b [.pv (.st [.arr .u8 32 h_0_Prev, .arr .u8 32 h_0_Root, .sc .u32 h_0_Time, .sc .u32 h_0_Bits, .sc .u32 h_0_Nonce])] [] Q =
    ((((0 : Int) ≤ (0 : Int)) ∧ (((0 : Int) ≤ (76 : Int)) ∧ ((((76 : Int) * (((1 : Nat) : Nat) : Int)) ≤ (((70368744177664 : Nat) : Nat) : Int)) ∧ ((76 : Int) ≤ ((2 : Int) ^ (62 : Nat)))))) ∧ ((((0 : Int) ≤ (0 : Int)) ∧ (((0 : Int) ≤ (32 : Int)) ∧ ((32 : Int) ≤ (((32 : Nat) : Nat) : Int)))) ∧ (((((List.length ((List.replicate (0 : Nat) (0 : UInt8)) ++ (List.take ((Int.toNat (32 : Int)) - (Int.toNat (0 : Int))) (List.drop (Int.toNat (0 : Int)) (Vector.toList h_0_Prev))))) * (1 : Nat)) ≤ (70368744177664 : Nat)) ∧ ((List.length ((List.replicate (0 : Nat) (0 : UInt8)) ++ (List.take ((Int.toNat (32 : Int)) - (Int.toNat (0 : Int))) (List.drop (Int.toNat (0 : Int)) (Vector.toList h_0_Prev))))) ≤ (70368744177664 : Nat))) ∧ ((((0 : Int) ≤ (0 : Int)) ∧ (((0 : Int) ≤ (32 : Int)) ∧ ((32 : Int) ≤ (((32 : Nat) : Nat) : Int)))) ∧ (((((List.length (((List.replicate (0 : Nat) (0 : UInt8)) ++ (List.take ((Int.toNat (32 : Int)) - (Int.toNat (0 : Int))) (List.drop (Int.toNat (0 : Int)) (Vector.toList h_0_Prev)))) ++ (List.take ((Int.toNat (32 : Int)) - (Int.toNat (0 : Int))) (List.drop (Int.toNat (0 : Int)) (Vector.toList h_0_Root))))) * (1 : Nat)) ≤ (70368744177664 : Nat)) ∧ ((List.length (((List.replicate (0 : Nat) (0 : UInt8)) ++ (List.take ((Int.toNat (32 : Int)) - (Int.toNat (0 : Int))) (List.drop (Int.toNat (0 : Int)) (Vector.toList h_0_Prev)))) ++ (List.take ((Int.toNat (32 : Int)) - (Int.toNat (0 : Int))) (List.drop (Int.toNat (0 : Int)) (Vector.toList h_0_Root))))) ≤ (70368744177664 : Nat))) ∧ (headP head_Put_C head_Put_lv [true, true, true, false, true, false] head_Put_b (head_Put_s0 (Vector.setIfInBounds (Vector.setIfInBounds (Vector.setIfInBounds (Vector.replicate (3 : Nat) (0 : UInt32)) (0 : Nat) h_0_Time) (1 : Nat) h_0_Bits) (2 : Nat) h_0_Nonce) (0 : Int) (((List.replicate (0 : Nat) (0 : UInt8)) ++ (List.take ((Int.toNat (32 : Int)) - (Int.toNat (0 : Int))) (List.drop (Int.toNat (0 : Int)) (Vector.toList h_0_Prev)))) ++ (List.take ((Int.toNat (32 : Int)) - (Int.toNat (0 : Int))) (List.drop (Int.toNat (0 : Int)) (Vector.toList h_0_Root))))) (fnK head_Put_C head_Put_r head_Put_hs Q))))))) := by kernel_rfl
theorem head_Put_w {k : Nat} (h_0_Prev : Vector UInt8 32) (h_0_Root : Vector UInt8 32) (h_0_Time : UInt32) (h_0_Bits : UInt32) (h_0_Nonce : UInt32) {r} {Q : CallOut → Prop} (h : head_Put k h_0_Prev h_0_Root h_0_Time h_0_Bits h_0_Nonce = some r) (hQ : Q (head_Put_enc r)) : evalFnP head_Put_C head_Put_lv head_Put_r head_Put_hs head_Put_b [.pv (.st [.arr .u8 32 h_0_Prev, .arr .u8 32 h_0_Root, .sc .u32 h_0_Time, .sc .u32 h_0_Bits, .sc .u32 h_0_Nonce])] [] Q :=
  Eq.mpr (head_Put_e h_0_Prev h_0_Root h_0_Time h_0_Bits h_0_Nonce Q) (have h := (head_Put_q k h_0_Prev h_0_Root h_0_Time h_0_Bits h_0_Nonce).symm.trans h; ⟨by decide +kernel, ⟨by decide +kernel, ite_ok h fun hc0 h => ⟨by decide +kernel, ite_ok h fun hc1 h => (head_Put_k0 hQ _) _ _ _ h⟩⟩⟩)
def head_Put_c : Ans
  | [.pv (.st [.arr .u8 32 h_0_Prev, .arr .u8 32 h_0_Root, .sc .u32 h_0_Time, .sc .u32 h_0_Bits, .sc .u32 h_0_Nonce])], [] => some (none, head_Put_enc (headB h_0_Prev h_0_Root h_0_Time h_0_Bits h_0_Nonce))
  | _, _ => none
theorem head_Put_tok : TblOK Tryd.prog theG head_Put_T := .cons ⟨by kernel_rfl, head_low_ok⟩ (.nil)
theorem head_Put_ok : FnOK Tryd.prog theG 21 (unW head_Put_c) := by
  refine FnOK.ofC (T := head_Put_T) (nt := 30) (np := 0) (mv := []) (nf := false) (hs := head_Put_hs) (fn := Tryd.f21) (body := head_Put_b) head_Put_tok (by kernel_rfl) (by kernel_rfl) (by kernel_rfl) (by kernel_rfl) (c := head_Put_c) (lv := head_Put_lv) ?_
  intro xs mem p out h hp
  unfold head_Put_c at h
  split at h
  · cases h
    obtain ⟨k, hk⟩ := head_Put_spec _ _ _ _ _
    exact head_Put_w _ _ _ _ _ hk rfl
  · cases h
end
end Go.Proofs.YtbdajagcinfeeaaDoor.M

namespace Go.Proofs.YtbdajagcinfeeaaDoor.M
open Go
noncomputable section
set_option maxRecDepth 100000
set_option maxHeartbeats 0
noncomputable def head_Id_T : Tbl := [(21, [], head_Put_c), (45, [], sha_Twice_c)]
noncomputable def head_Id_C : CfgW := mkC Tryd.prog theG head_Id_T 6 0 false
def head_Id_lv : Nat → List Nat := fun i => []
noncomputable abbrev head_Id_b : Code := Tryd.f23.body.getD .skip
noncomputable abbrev head_Id_r : List ResultVar := Tryd.f23.results.toList
def head_Id_hs : List Nat := []

def head_Id_enc (r : Vector UInt8 32) : CallOut := ⟨.pv (.arr .u8 32 r), [], true, []⟩
theorem head_Id_e (h_0_Prev : Vector UInt8 32) (h_0_Root : Vector UInt8 32) (h_0_Time : UInt32) (h_0_Bits : UInt32) (h_0_Nonce : UInt32) (Q : CallOut → Prop) : evalFnP head_Id_C head_Id_lv head_Id_r head_Id_hs head_Id_b [.pv (.st [.arr .u8 32 h_0_Prev, .arr .u8 32 h_0_Root, .sc .u32 h_0_Time, .sc .u32 h_0_Bits, .sc .u32 h_0_Nonce])] [] Q =
    (((List.length (headB h_0_Prev h_0_Root h_0_Time h_0_Bits h_0_Nonce)) ≤ (1099511627776 : Nat)) ∧ (Q (head_Id_enc (shaSum (Vector.toList (shaSum (headB h_0_Prev h_0_Root h_0_Time h_0_Bits h_0_Nonce))))))) := by kernel_rfl
theorem head_Id_w (h_0_Prev : Vector UInt8 32) (h_0_Root : Vector UInt8 32) (h_0_Time : UInt32) (h_0_Bits : UInt32) (h_0_Nonce : UInt32) {r} {Q : CallOut → Prop} (h : head_Id h_0_Prev h_0_Root h_0_Time h_0_Bits h_0_Nonce = some r) (hQ : Q (head_Id_enc r)) : evalFnP head_Id_C head_Id_lv head_Id_r head_Id_hs head_Id_b [.pv (.st [.arr .u8 32 h_0_Prev, .arr .u8 32 h_0_Root, .sc .u32 h_0_Time, .sc .u32 h_0_Bits, .sc .u32 h_0_Nonce])] [] Q :=
  Eq.mpr (head_Id_e h_0_Prev h_0_Root h_0_Time h_0_Bits h_0_Nonce Q) (have h := (head_Id_q h_0_Prev h_0_Root h_0_Time h_0_Bits h_0_Nonce).symm.trans h; ite_ok h fun hc0 h => ret_ok (Q := Q) (e := head_Id_enc) h hQ)
def head_Id_c : Ans
  | [.pv (.st [.arr .u8 32 h_0_Prev, .arr .u8 32 h_0_Root, .sc .u32 h_0_Time, .sc .u32 h_0_Bits, .sc .u32 h_0_Nonce])], [] => some (none, head_Id_enc (idV h_0_Prev h_0_Root h_0_Time h_0_Bits h_0_Nonce))
  | _, _ => none
theorem head_Id_tok : TblOK Tryd.prog theG head_Id_T := .cons ⟨by kernel_rfl, head_Put_ok⟩ (.cons ⟨by kernel_rfl, sha_Twice_ok⟩ (.nil))
theorem head_Id_ok : FnOK Tryd.prog theG 23 (unW head_Id_c) := by
  refine FnOK.ofC (T := head_Id_T) (nt := 6) (np := 0) (mv := []) (nf := false) (hs := head_Id_hs) (fn := Tryd.f23) (body := head_Id_b) head_Id_tok (by kernel_rfl) (by kernel_rfl) (by kernel_rfl) (by kernel_rfl) (c := head_Id_c) (lv := head_Id_lv) ?_
  intro xs mem p out h hp
  unfold head_Id_c at h
  split at h
  · cases h
    exact head_Id_w _ _ _ _ _ (head_Id_spec _ _ _ _ _) rfl
  · cases h
end
end Go.Proofs.YtbdajagcinfeeaaDoor.M

namespace Go.Proofs.YtbdajagcinfeeaaDoor.M
open Go
noncomputable section
set_option maxRecDepth 100000
set_option maxHeartbeats 0
noncomputable def head_Works_T : Tbl := [(23, [], head_Id_c), (46, [], target_Meets_c)]
noncomputable def head_Works_C : CfgW := mkC Tryd.prog theG head_Works_T 8 0 false
def head_Works_lv : Nat → List Nat := fun i => []
noncomputable abbrev head_Works_b : Code := Tryd.f25.body.getD .skip
noncomputable abbrev head_Works_r : List ResultVar := Tryd.f25.results.toList
def head_Works_hs : List Nat := []

def head_Works_enc (r : Bool) : CallOut := ⟨.pv (.sc .b r), [], true, []⟩
theorem head_Works_e (h_0_Prev : Vector UInt8 32) (h_0_Root : Vector UInt8 32) (h_0_Time : UInt32) (h_0_Bits : UInt32) (h_0_Nonce : UInt32) (Q : CallOut → Prop) : evalFnP head_Works_C head_Works_lv head_Works_r head_Works_hs head_Works_b [.pv (.st [.arr .u8 32 h_0_Prev, .arr .u8 32 h_0_Root, .sc .u32 h_0_Time, .sc .u32 h_0_Bits, .sc .u32 h_0_Nonce])] [] Q =
    (Q (head_Works_enc (meetsS (idV h_0_Prev h_0_Root h_0_Time h_0_Bits h_0_Nonce) h_0_Bits))) := by kernel_rfl
theorem head_Works_w (h_0_Prev : Vector UInt8 32) (h_0_Root : Vector UInt8 32) (h_0_Time : UInt32) (h_0_Bits : UInt32) (h_0_Nonce : UInt32) {Q : CallOut → Prop} (h : Q (head_Works_enc (head_Works h_0_Prev h_0_Root h_0_Time h_0_Bits h_0_Nonce))) : evalFnP head_Works_C head_Works_lv head_Works_r head_Works_hs head_Works_b [.pv (.st [.arr .u8 32 h_0_Prev, .arr .u8 32 h_0_Root, .sc .u32 h_0_Time, .sc .u32 h_0_Bits, .sc .u32 h_0_Nonce])] [] Q :=
  Eq.mpr (head_Works_e h_0_Prev h_0_Root h_0_Time h_0_Bits h_0_Nonce Q) (have h := Eq.mp (congrArg (fun r => Q (head_Works_enc r)) (head_Works_q h_0_Prev h_0_Root h_0_Time h_0_Bits h_0_Nonce)) h; h)
def head_Works_c : Ans
  | [.pv (.st [.arr .u8 32 h_0_Prev, .arr .u8 32 h_0_Root, .sc .u32 h_0_Time, .sc .u32 h_0_Bits, .sc .u32 h_0_Nonce])], [] => some (none, head_Works_enc (meetsS (idV h_0_Prev h_0_Root h_0_Time h_0_Bits h_0_Nonce) h_0_Bits))
  | _, _ => none
theorem head_Works_tok : TblOK Tryd.prog theG head_Works_T := .cons ⟨by kernel_rfl, head_Id_ok⟩ (.cons ⟨by kernel_rfl, target_Meets_ok⟩ (.nil))
theorem head_Works_ok : FnOK Tryd.prog theG 25 (unW head_Works_c) := by
  refine FnOK.ofC (T := head_Works_T) (nt := 8) (np := 0) (mv := []) (nf := false) (hs := head_Works_hs) (fn := Tryd.f25) (body := head_Works_b) head_Works_tok (by kernel_rfl) (by kernel_rfl) (by kernel_rfl) (by kernel_rfl) (c := head_Works_c) (lv := head_Works_lv) ?_
  intro xs mem p out h hp
  unfold head_Works_c at h
  split at h
  · cases h
    exact head_Works_w _ _ _ _ _ (congrArg head_Works_enc (head_Works_spec _ _ _ _ _))
  · cases h
end
end Go.Proofs.YtbdajagcinfeeaaDoor.M



namespace Go.Proofs.YtbdajagcinfeeaaDoor.M
open Go Go.RowKit
noncomputable section
set_option maxRecDepth 100000
set_option maxHeartbeats 6000000
/-! head.nonces$1: heads of which the nonce goes on -/
noncomputable def itn_C (np : Nat) : CfgW := mkC Tryd.prog theG [] 16 np
theorem itn_tok : TblOK Tryd.prog theG [] := .nil
noncomputable abbrev itn_b : Code := Tryd.f73.body.getD .skip
def itn_lv : Nat → List Nat := fun _ => []
abbrev itn_hd (p r : Vector UInt8 32) (t b n : UInt32) : PV := .st [.arr .u8 32 p, .arr .u8 32 r, .sc .u32 t, .sc .u32 b, .sc .u32 n]
/-- what is yielded -/
def encHead (e : Vector UInt8 32 × Vector UInt8 32 × UInt32 × UInt32 × UInt32) : List PV := [itn_hd e.1 e.2.1 e.2.2.1 e.2.2.2.1 e.2.2.2.2]
def itNonces : ItT := fun gf args L => bif Nat.beq gf 73 then (match args with
  | [.p n1 [], .p n2 []] => (match L n1, L n2 with
    | some (.box (.pv (.sc .u32 k))), some (.box (.pv (.st [.arr .u8 32 p, .arr .u8 32 r, .sc .u32 t, .sc .u32 b, .sc .u32 n]))) => some ([n1, n2], List.map encHead (nonL p r t b n k))
    | _, _ => none)
  | _ => none) else none

def regOps : Code → Array Oper
  | .region _ ops _ => ops
  | _ => #[]
noncomputable def itn_l : Code := codeAt [false, false] itn_b
theorem itn_code : itn_b = .block 0 (.loop itn_l) := by kernel_rfl
noncomputable def itn_ops : Array Oper := regOps (codeAt [true, false, false, false, false] itn_l)
@[irreducible] noncomputable def itn_cB : Code := codeAt [false] itn_l
@[irreducible] noncomputable def itn_cE : Code := codeAt [true, false, false, true] itn_l
@[irreducible] noncomputable def itn_cD : Code := codeAt [true, true] itn_l
theorem itn_lcode : itn_l = .seq itn_cB (.seq (.block 1 (.seq (.seq (.region 2 itn_ops false) (.cond (.tmp 11) .ret .skip)) itn_cE)) itn_cD) := by kernel_rfl
abbrev itn_bx (pt ph : Nat) (p r : Vector UInt8 32) (t b n k : UInt32) : List (Nat × PV) := [(pt, .sc .u32 k), (ph, itn_hd p r t b n)]
abbrev itn_L (p r : Vector UInt8 32) (t b n k : UInt32) : List (Nat × Blk) := [(60000, .box (.pv (.sc .u32 k))), (60001, .box (.pv (itn_hd p r t b n)))]
def itn_s (p r : Vector UInt8 32) (t b n k : UInt32) : St := ⟨[(1, .p 60000 []), (2, .p 60001 [])], itn_L p r t b n k⟩
def itn_t (p r : Vector UInt8 32) (t b n k : UInt32) : St := ⟨[(1, .p 60000 []), (2, .p 60001 []), (9, .pv (itn_hd p r t b n))], itn_L p r t b n k⟩
theorem itn_B (p r : Vector UInt8 32) (t b n k : UInt32) (X : Ex → Prop) (K : St → Prop) : evalP (itn_C 3) itn_lv 0 itn_cB (itn_s p r t b n k) (itQ X [1, 2] K) = condP (decide (0 < k)) (K (itn_s p r t b n k)) (X (.exit 0)) := by kernel_rfl
theorem itn_E (p r : Vector UInt8 32) (t b n k : UInt32) (X : Ex → Prop) (K : St → Prop) : evalP (itn_C 3) itn_lv 1 itn_cE (itn_s p r t b n k) (itQ X [1, 2] K) = K (itn_s p r t b (n + 1) k) := by kernel_rfl
theorem itn_D (p r : Vector UInt8 32) (t b n k : UInt32) (X : Ex → Prop) (K : St → Prop) : evalP (itn_C 3) itn_lv 0 itn_cD (itn_s p r t b n k) (itQ X [1, 2] K) = K (itn_s p r t b n (k - 1)) := by kernel_rfl

def opAt (ops : Array Oper) (i : Nat) : Oper := (ops[i]?).getD { dst := none, op := .move (.tmp 0), type := 0, pos := "", after := #[], guard := none }
theorem opAt_eq {ops : Array Oper} {i : Nat} (h : i < ops.size) : ops[i]? = some (opAt ops i) := by
  unfold opAt
  rw [Array.getElem?_eq_getElem h]; rfl
theorem itn_R (p r : Vector UInt8 32) (t b n k : UInt32) (K : St → Prop) : evalOpsP (itn_C 9) itn_ops [opAt itn_ops 1] (itn_s p r t b n k) (fun s => canonP [1, 2, 9] s K) = K (itn_t p r t b n k) := by kernel_rfl
theorem itn_size : itn_ops.size = 4 := by kernel_rfl
theorem itn_nd : itn_ops.toList.all notDefer = true := by kernel_rfl
theorem itn_o0 : (opAt itn_ops 0).op = .move (.tmp 0) ∧ (opAt itn_ops 0).dst = some 8 ∧ (opAt itn_ops 0).guard = none := ⟨by kernel_rfl, by kernel_rfl, by kernel_rfl⟩
noncomputable def itn_call : Call := match (opAt itn_ops 2).op with
  | .call c => c
  | _ => { callee := .value (.tmp 0), args := #[], argTypes := #[] }
theorem itn_o2 : (opAt itn_ops 2).op = .call itn_call ∧ itn_call.callee = .value (.tmp 8) ∧ itn_call.args = #[.tmp 9] ∧ (opAt itn_ops 2).dst = some 10 ∧ (opAt itn_ops 2).guard = none := ⟨by kernel_rfl, by kernel_rfl, by kernel_rfl, by kernel_rfl, by kernel_rfl⟩
theorem itn_o3 : (∃ t, (opAt itn_ops 3).op = .unOp .not t (.tmp 10)) ∧ (opAt itn_ops 3).dst = some 11 ∧ (opAt itn_ops 3).guard = none := ⟨⟨(opAt itn_ops 3).type, by kernel_rfl⟩, by kernel_rfl, by kernel_rfl⟩
theorem itn_mixed : Tryd.prog.follows .mixedOrders = true := by kernel_rfl
theorem itn_pB : plainC itn_cB = true := by kernel_rfl
theorem itn_pE : plainC itn_cE = true := by kernel_rfl
theorem itn_pD : plainC itn_cD = true := by kernel_rfl
theorem nonL_at (p r : Vector UInt8 32) (t b n k : UInt32) {i : Nat} (h : i < k.toNat) : (List.map encHead (nonL p r t b n k))[i]? = some [itn_hd p r t b (n + UInt32.ofNat i)] := by
  simp [nonL, h, encHead]
theorem one_run {C : CfgW} {ops : Array Oper} {o : Oper} {i : Nat} {live : List Nat} {st t : St} (hev : ∀ K : St → Prop, evalOpsP C ops [o] st (fun s => canonP live s K) = K t) (ho : ops[i]? = some o) :
    ∃ st4, canon live st4 = some t ∧ FStep C.cfg ops i st.e (lk st.L) st4.e (lk st4.L) := by
  have h1 : evalOpsP C ops [o] st (fun s => canonP live s fun s => s = t) := by rw [hev]
  obtain ⟨st', hr, hk⟩ := evalOpsP_sound [o] i (fun j hj => by
    have : j = 0 := by simpa using hj
    subst this
    simpa using ho) h1
  obtain ⟨s5, hcan, rfl⟩ := optP_iff.1 hk
  refine ⟨st', hcan, ?_⟩
  cases hr with
  | cons a f r =>
    cases r
    exact FAct.step a f
theorem op_value {P : Program} {ops : Array Oper} {Q : Exit → Act → World → Prop} {fr : Option Nat} {fn i d : Nat} {o : Oper} {v : Value} {a : Act} {w : World} {K : Act → World → Prop} (ho : ops[i]? = some o) (hg : o.guard = none) (hd : o.dst = some d) {x : Operand} (hop : o.op = .move x) (hv : a.eval x = v)
    (hK : K (a.put (some d) v) w) : wpOpIn (FR fr) fn P ops Q i K a w := by
  unfold wpOpIn
  simp only [ho]
  rw [if_pos (by simp [Region.wanted, hg])]
  refine ⟨fun _ _ => trivial, ?_⟩
  rw [Oper.semAt_eq _ _ _ (by rw [hop]; intro c h; cases h)]
  have hrun : (execOp a.eval o).run P w = .ok (.value v) w := by
    simp only [execOp, hop, hv]
    rfl
  rw [hrun]
  show K (a.put o.dst v) w
  rw [hd]
  exact hK

section
variable {w : World} {S : Nat → Prop} {pt ph l : Nat} {p r : Vector UInt8 32} {t b n k : UInt32} {J : Nat → World → Prop} {Jx : World → Prop}
@[irreducible] def itn_k (k : UInt32) (i : Nat) : UInt32 := UInt32.ofNat (k.toNat - i)
@[irreducible] def itn_n (n : UInt32) (i : Nat) : UInt32 := n + UInt32.ofNat i
/-- at the loop's head -/
structure ItnH (w : World) (S : Nat → Prop) (pt ph l : Nat) (p r : Vector UInt8 32) (t b n k : UInt32) (J : Nat → World → Prop) (i : Nat) (a : Act) (W : World) : Prop where
  it : ItH 16 S w (itn_bx pt ph p r t b (itn_n n i) (itn_k k i)) (itn_s p r t b (itn_n n i) (itn_k k i)) a W
  y : a.tmps.getD 0 undef = .func (.yield l) #[] #[]
  j : J i W
/-- how it is left -/
def itn_Q (m : Nat) (J : Nat → World → Prop) (Jx : World → Prop) (ex : Exit) (a : Act) (w : World) : Prop := ((ex = .exit 0 ∧ J m w) ∨ (ex = .ret ∧ Jx w)) ∧ a.defers = []
theorem itn_shape (p r : Vector UInt8 32) (t b n k : UInt32) : flatS (itn_s p r t b n k) = true := by kernel_rfl
theorem itn_shapeT (p r : Vector UInt8 32) (t b n k : UInt32) : flatS (itn_t p r t b n k) = true := by kernel_rfl
theorem itn_k_lt {k : UInt32} {i : Nat} (h : i ≤ k.toNat) : decide (0 < itn_k k i) = decide (i < k.toNat) := by
  apply decide_eq_decide.2
  have hk : k.toNat < 4294967296 := k.toNat_lt
  unfold itn_k
  rw [UInt32.lt_iff_toNat_lt, UInt32.toNat_ofNat']
  show 0 < (k.toNat - i) % 2 ^ 32 ↔ _
  rw [Nat.mod_eq_of_lt (by omega)]
  omega
theorem itn_k_next {k : UInt32} {i : Nat} (h : i < k.toNat) : itn_k k i - 1 = itn_k k (i + 1) := by
  apply UInt32.toNat_inj.1
  have hk : k.toNat < 4294967296 := k.toNat_lt
  have h1 : (1 : UInt32) ≤ itn_k k i := by
    unfold itn_k
    rw [UInt32.le_iff_toNat_le, UInt32.toNat_ofNat']
    show 1 ≤ (k.toNat - i) % 2 ^ 32
    rw [Nat.mod_eq_of_lt (by omega)]
    omega
  rw [UInt32.toNat_sub_of_le _ _ h1]
  unfold itn_k
  rw [UInt32.toNat_ofNat', UInt32.toNat_ofNat']
  show (k.toNat - i) % 2 ^ 32 - 1 = (k.toNat - (i + 1)) % 2 ^ 32
  rw [Nat.mod_eq_of_lt (by omega), Nat.mod_eq_of_lt (by omega)]
  omega
theorem itn_n_next (n : UInt32) (i : Nat) : itn_n n i + 1 = itn_n n (i + 1) := by
  unfold itn_n
  rw [UInt32.add_assoc]
  congr 1
  apply UInt32.toNat_inj.1
  rw [UInt32.toNat_add, UInt32.toNat_ofNat', UInt32.toNat_ofNat']
  show (i % 2 ^ 32 + 1) % 2 ^ 32 = (i + 1) % 2 ^ 32
  omega

theorem lets_block {id : Nat} {Q : Exit → Act → World → Prop} (h : ¬ LetsOut Q) : ¬ LetsOut (Exit.inBlock id Q) := fun ⟨a, w, q⟩ => h ⟨a, w, q⟩
theorem lets_then {N : Act → World → Prop} {Q : Exit → Act → World → Prop} (h : ¬ LetsOut Q) : ¬ LetsOut (Exit.then N Q) := fun ⟨a, w, q⟩ => h ⟨a, w, q⟩
theorem itn_E2 (p r : Vector UInt8 32) (t b n k : UInt32) (i : Nat) : evalP (itn_C 3) itn_lv 1 itn_cE (itn_s p r t b (itn_n n i) (itn_k k i)) (itQ (fun _ => False) [1, 2] fun s => s = itn_s p r t b (itn_n n i + 1) (itn_k k i) ∧ True) := by
  have h := itn_E p r t b (itn_n n i) (itn_k k i) (fun _ => False) (fun s => s = itn_s p r t b (itn_n n i + 1) (itn_k k i) ∧ True)
  rw [h]
  exact ⟨rfl, trivial⟩
theorem itn_D2 (p r : Vector UInt8 32) (t b n k : UInt32) (i : Nat) : evalP (itn_C 3) itn_lv 0 itn_cD (itn_s p r t b (itn_n n i + 1) (itn_k k i)) (itQ (fun _ => False) [1, 2] fun s => s = itn_s p r t b (itn_n n i + 1) (itn_k k i - 1) ∧ True) := by
  have h := itn_D p r t b (itn_n n i + 1) (itn_k k i) (fun _ => False) (fun s => s = itn_s p r t b (itn_n n i + 1) (itn_k k i - 1) ∧ True)
  rw [h]
  exact ⟨rfl, trivial⟩

theorem itn_round (hG : GlobOK theG S w.heap) (hS : ∀ b, S b → b < w.heap.size) (hp : ¬ S pt ∧ ¬ S ph) (hne : pt ≠ ph) (hJ : ∀ i W W', Ch (fun b => b = pt ∨ b = ph) W W' → J i W → J i W')
    (hY : ∀ i x W (av : Array Value), (List.map encHead (nonL p r t b n k))[i]? = some x → w.heap.size ≤ W.heap.size → J i W → RepAs (fun _ => undef) (fun _ => False) #[] (fun _ => none) (x.map A.pv) av.toList →
        YieldAt Fence.wide 0 Tryd.prog l av W fun e W' => (e = .returned (.bool true) ∧ J (i + 1) W' ∧ Ch (fun b => ¬ (S b ∨ (b = pt ∨ b = ph))) W W') ∨ (e = .returned (.bool false) ∧ Jx W'))
    {i : Nat} (hi : i ≤ k.toNat) {a : Act} {W : World} (h : ItnH w S pt ph l p r t b n k J i a W) {K : Act → World → Prop} (hK : ∀ a W, i < k.toNat → ItnH w S pt ph l p r t b n k J (i + 1) a W → K a W) :
    itn_l.wpIn (FR none) 0 Tryd.prog (Exit.then K (itn_Q k.toNat J Jx)) a W := by
  have hps : ∀ {n' k' : UInt32} (q : Nat), q ∈ (itn_bx pt ph p r t b n' k').map (·.1) → ¬ S q := fun q hq => by
    simp at hq
    rcases hq with rfl | rfl
    · exact hp.1
    · exact hp.2
  have hnod : ∀ {n' k' : UInt32}, ((itn_bx pt ph p r t b n' k').map (·.1)).Nodup := by
    intro n' k'
    simp [hne]
  have hfl : ∀ {n' k' : UInt32} (q : Nat) (x : PV), (q, x) ∈ itn_bx pt ph p r t b n' k' → x.flat = true := fun q x hx => by
    simp at hx
    rcases hx with ⟨rfl, rfl⟩ | ⟨rfl, rfl⟩ <;> rfl
  have hs : ∀ {np : Nat} {n' k' : UInt32} {s t' : St}, 2 < np → s.e 1 = .p 60000 [] → s.e 2 = .p 60001 [] → t'.e 1 = .p 60000 [] → t'.e 2 = .p 60001 [] → ∀ m, m < (itn_bx pt ph p r t b n' k').length → ∃ q, q < np ∧ s.e q = .p (60000 + m) [] ∧ t'.e q = .p (60000 + m) [] := fun h1 h2 h2' h3 h3' m hm => by
    simp at hm
    match m, hm with
    | 0, _ => exact ⟨1, by omega, h2, h3⟩
    | 1, _ => exact ⟨2, h1, h2', h3'⟩
  have ch1 : ∀ {n' k' : UInt32} {W W' : World}, Ch (fun b' => b' ∈ (itn_bx pt ph p r t b n' k').map (·.1)) W W' → Ch (fun b => b = pt ∨ b = ph) W W' := fun h => ⟨h.size, fun b hb hn => h.keep b hb (by simpa using hn), h.os, h.tape, h.output⟩
  have hQn : ¬ LetsOut (itn_Q k.toNat J Jx) := fun ⟨a, w, h⟩ => by rcases h.1 with h | h <;> cases h.1
  rw [itn_lcode]
  refine wpIn_seq (ItH.seg (C := itn_C 3) (t := itn_s p r t b (itn_n n i) (itn_k k i)) (mkC_ok itn_tok) itn_mixed h.it itn_pB (fun ⟨a, w, h⟩ => hQn ⟨a, w, h⟩) (X := fun ex => ex = .exit 0 ∧ ¬ i < k.toNat) (N := i < k.toNat) (Eq.mpr (itn_B p r t b _ _ _ _) ?_) hG hS hps hnod (itn_shape _ _ _ _ _ _) rfl (bx' := itn_bx pt ph p r t b (itn_n n i) (itn_k k i)) rfl rfl (itn_shape _ _ _ _ _ _) hfl (hs (by decide) rfl rfl rfl rfl) (fun hi' a1 W1 h1 c1 p1 => ?_) (fun ex hne hx a1 W1 d1 c1 => ?_))
  · rw [itn_k_lt hi]
    by_cases hlt : i < k.toNat
    · rw [decide_eq_true hlt]; exact ⟨rfl, hlt⟩
    · rw [decide_eq_false hlt]; exact ⟨rfl, hlt⟩
  rotate_left
  · obtain ⟨rfl, hlt⟩ := hx
    have : i = k.toNat := by omega
    exact ⟨.inl ⟨rfl, this ▸ hJ _ _ _ (ch1 c1) h.j⟩, d1⟩
  have y1 : a1.tmps.getD 0 undef = .func (.yield l) #[] #[] := (p1 0 (by decide)).trans h.y
  have j1 := hJ _ _ _ (ch1 c1) h.j
  refine wpIn_seq (wpIn_block (wpIn_seq (wpIn_seq (wpIn_region ?_))))
  generalize hQ3 : (Exit.then (Code.wpIn (FR none) 0 Tryd.prog (.cond (.tmp 11) .ret .skip) _) _ : Exit → Act → World → Prop) = Q3
  have q3p : ∀ c a w, ¬ Q3 (.panic c) a w := fun c a w hx => by
    subst hQ3
    rcases hx.1 with hx | hx <;> cases hx.1
  have q3o : ¬ LetsOut Q3 := fun ⟨a, w, hx⟩ => by
    subst hQ3
    rcases hx.1 with hx | hx <;> cases hx.1
  rw [show List.range itn_ops.size = [0, 1, 2, 3] from by rw [itn_size]; rfl]
  obtain ⟨o0a, o0b, o0c⟩ := itn_o0
  have ev0 : a1.eval (.tmp 0) = .func (.yield l) #[] #[] := y1
  rw [wpOpsIn_cons]
  refine op_value (opAt_eq (by rw [itn_size]; decide)) o0c o0b o0a ev0 ?_
  have h3 := h1.put (d := 8) (v := .func (.yield l) #[] #[]) (by decide) rfl
  have y3 : (a1.put (some 8) (.func (.yield l) #[] #[])).tmps.getD 8 undef = .func (.yield l) #[] #[] := by rw [getD_put a1 8 _ 8 (by rw [h1.nt]; decide), if_pos rfl]
  have y30 : (a1.put (some 8) (.func (.yield l) #[] #[])).tmps.getD 0 undef = .func (.yield l) #[] #[] := by rw [getD_put a1 8 _ 0 (by rw [h1.nt]; decide), if_neg (by decide)]; exact y1
  generalize a1.put (some 8) (.func (.yield l) #[] #[]) = a3 at h3 y3 y30
  have r3 := h3.rl (np := 9) hG hS hps hnod (itn_shape _ _ _ _ _ _) rfl
  obtain ⟨st4, hcan, hst⟩ := one_run (itn_R p r t b (itn_n n i) (itn_k k i)) (opAt_eq (i := 1) (by rw [itn_size]; decide))
  rw [wpOpsIn_cons]
  refine wpOp_in q3o itn_nd (K := fun a4 W4 => ∃ β' S', RlF (itK W1 ((itn_bx pt ph p r t b (itn_n n i) (itn_k k i)).map (·.1)) S theG 16 9 a3) β' S' st4.e (lk st4.L) a4 W4) (fun a4 W4 h4 => ?_) (FStep.sound (mkC_ok itn_tok) (k := itK W1 ((itn_bx pt ph p r t b (itn_n n i) (itn_k k i)).map (·.1)) S theG 16 9 a3) rfl ⟨rfl, rfl⟩ r3 hst fun β' S' a' w' R' => ⟨β', S', R'⟩)
  obtain ⟨β', S', r4⟩ := h4
  obtain ⟨β5, r5⟩ := canon_sound hcan r4
  obtain ⟨h5, c5, p5⟩ := ItH.of h3 hS hps r5 (bx' := itn_bx pt ph p r t b (itn_n n i) (itn_k k i)) rfl rfl (itn_shapeT _ _ _ _ _ _) hfl (hs (by decide) rfl rfl rfl rfl)
  have y5 : a4.tmps.getD 8 undef = .func (.yield l) #[] #[] := (p5 8 (by decide)).trans y3
  have y50 : a4.tmps.getD 0 undef = .func (.yield l) #[] #[] := (p5 0 (by decide)).trans y30
  have j5 := hJ _ _ _ (ch1 c5) j1
  obtain ⟨o2a, o2b, o2c, o2d, o2e⟩ := itn_o2
  obtain ⟨⟨t10, o3a⟩, o3b, o3c⟩ := itn_o3
  have v9 : RepA0 (.pv (itn_hd p r t b (itn_n n i))) (a4.eval (.tmp 9)) := h5.vals 9 _ rfl
  refine yield_not (fr := none) (R := fun e W' => (e = .returned (.bool true) ∧ J (i + 1) W' ∧ Ch (fun b => ¬ (S b ∨ (b = pt ∨ b = ph))) W4 W') ∨ (e = .returned (.bool false) ∧ Jx W')) (opAt_eq (by rw [itn_size]; decide)) (opAt_eq (by rw [itn_size]; decide)) o2e o3c o2d o3b o2a o2b (l := l) y5 (av := #[a4.eval (.tmp 9)]) (by rw [o2c]; simp) o3a (by rw [h5.nt]; decide)
    (hY i [itn_hd p r t b (itn_n n i)] W4 _ ((nonL_at p r t b n k hi').trans (by rw [show n + UInt32.ofNat i = itn_n n i from by unfold itn_n; rfl])) h5.sz j5 (.cons v9 .nil)) (fun e W' hR => ?_)
  have hsz4 : 10 < a4.tmps.size ∧ 11 < a4.tmps.size := by rw [h5.nt]; decide
  rcases hR with ⟨rfl, j6, c6⟩ | ⟨rfl, x6⟩
  · refine ⟨true, rfl, ?_⟩
    have h6 := ((h5.world hS (Fi := fun b => b = pt ∨ b = ph) (fun b hb => by simpa using hb) c6).put (d := 10) (v := .bool true) (by decide) rfl).put (d := 11) (v := .bool false) (by decide) rfl
    have e6 : ((a4.put (some 10) (.bool true)).put (some 11) (.bool false)).tmps.getD 11 undef = .bool false := by rw [getD_put _ 11 _ 11 (by simpa [Act.put] using hsz4.2), if_pos rfl]
    have y6 : ((a4.put (some 10) (.bool true)).put (some 11) (.bool false)).tmps.getD 0 undef = .func (.yield l) #[] #[] := by rw [getD_put _ 11 _ 0 (by simpa [Act.put] using hsz4.2), if_neg (by decide), getD_put _ 10 _ 0 hsz4.1, if_neg (by decide)]; exact y50
    show Q3 .normal ((a4.put (some 10) (.bool true)).put (some 11) (.bool false)) W'
    generalize (a4.put (some 10) (.bool true)).put (some 11) (.bool false) = a6 at h6 e6 y6
    subst hQ3
    show (Code.cond (.tmp 11) .ret .skip).wpIn (FR none) 0 Tryd.prog _ a6 W'
    refine wpIn_cond_false e6 (wpIn_skip ?_)
    have h7 : ItH 16 S w (itn_bx pt ph p r t b (itn_n n i) (itn_k k i)) (itn_s p r t b (itn_n n i) (itn_k k i)) a6 W' := h6.cut rfl (fun q => by
      simp only [St.e, itn_s, itn_t, lk_cons]
      by_cases h1 : 1 = q
      · simp [h1]
      · by_cases h3 : 2 = q
        · simp [h1, h3]
        · simp [h1, h3, lk])
    show itn_cE.wpIn (FR none) 0 Tryd.prog _ a6 W'
    refine ItH.seg (C := itn_C 3) (t := itn_s p r t b (itn_n n i + 1) (itn_k k i)) (mkC_ok itn_tok) itn_mixed h7 itn_pE (lets_block (lets_then (lets_then hQn))) (X := fun _ => False) (N := True) (itn_E2 p r t b n k i) hG hS hps hnod (itn_shape _ _ _ _ _ _) rfl (bx' := itn_bx pt ph p r t b (itn_n n i + 1) (itn_k k i)) rfl rfl (itn_shape _ _ _ _ _ _) hfl (hs (by decide) rfl rfl rfl rfl)
      (fun _ a7 W7 h8 c8 p8 => ?_) (fun ex hne hx => hx.elim)
    have y7 := (p8 0 (by decide)).trans y6
    have j7 := hJ _ _ _ (ch1 c8) j6
    show itn_cD.wpIn (FR none) 0 Tryd.prog (Exit.then K (itn_Q k.toNat J Jx)) a7 W7
    exact ItH.seg (C := itn_C 3) (t := itn_s p r t b (itn_n n i + 1) (itn_k k i - 1)) (mkC_ok itn_tok) itn_mixed h8 itn_pD (fun ⟨a, w, h⟩ => hQn ⟨a, w, h⟩) (X := fun _ => False) (N := True) (itn_D2 p r t b n k i) hG hS hps hnod (itn_shape _ _ _ _ _ _) rfl (bx' := itn_bx pt ph p r t b (itn_n n i + 1) (itn_k k i - 1)) rfl rfl (itn_shape _ _ _ _ _ _) hfl (hs (by decide) rfl rfl rfl rfl)
      (fun _ a8 W8 h9 c9 p9 => hK a8 W8 hi' ⟨by rw [itn_k_next hi', itn_n_next] at h9; exact h9, (p9 0 (by decide)).trans y7, hJ _ _ _ (ch1 c9) j7⟩) (fun ex hne hx => hx.elim)
  · refine ⟨false, rfl, ?_⟩
    have e6 : ((a4.put (some 10) (.bool false)).put (some 11) (.bool true)).tmps.getD 11 undef = .bool true := by rw [getD_put _ 11 _ 11 (by simpa [Act.put] using hsz4.2), if_pos rfl]
    show Q3 .normal ((a4.put (some 10) (.bool false)).put (some 11) (.bool true)) W'
    have d6 : ((a4.put (some 10) (.bool false)).put (some 11) (.bool true)).defers = [] := h5.df
    generalize (a4.put (some 10) (.bool false)).put (some 11) (.bool true) = a6 at e6 d6
    subst hQ3
    show (Code.cond (.tmp 11) .ret .skip).wpIn (FR none) 0 Tryd.prog _ a6 W'
    refine wpIn_cond_true e6 (wpIn_ret ?_)
    exact ⟨.inr ⟨rfl, x6⟩, d6⟩

theorem itn_loop (hG : GlobOK theG S w.heap) (hS : ∀ b, S b → b < w.heap.size) (hp : ¬ S pt ∧ ¬ S ph) (hne : pt ≠ ph) (hJ : ∀ i W W', Ch (fun b => b = pt ∨ b = ph) W W' → J i W → J i W')
    (hY : ∀ i x W (av : Array Value), (List.map encHead (nonL p r t b n k))[i]? = some x → w.heap.size ≤ W.heap.size → J i W → RepAs (fun _ => undef) (fun _ => False) #[] (fun _ => none) (x.map A.pv) av.toList →
        YieldAt Fence.wide 0 Tryd.prog l av W fun e W' => (e = .returned (.bool true) ∧ J (i + 1) W' ∧ Ch (fun b => ¬ (S b ∨ (b = pt ∨ b = ph))) W W') ∨ (e = .returned (.bool false) ∧ Jx W')) :
    ∀ (d : Nat) {i : Nat} (_ : i + d = k.toNat) {a : Act} {W : World} (_ : ItnH w S pt ph l p r t b n k J i a W), Code.roundsIn (FR none) 0 Tryd.prog itn_l (itn_Q k.toNat J Jx) (d + 1) a W
  | 0, i, hd, a, W, h => by
    rw [roundsIn_succ]
    exact itn_round hG hS hp hne hJ hY (by omega) h (fun _ _ hlt _ => by omega)
  | d + 1, i, hd, a, W, h => by
    rw [roundsIn_succ]
    exact itn_round hG hS hp hne hJ hY (by omega) h (fun a W hlt h => itn_loop hG hS hp hne hJ hY d (by omega) h)
end
section
variable {w : World}
theorem itn_func : Tryd.prog.funcs[73]? = some Tryd.f73 := by kernel_rfl
theorem itn_body : Tryd.f73.body = some itn_b := by kernel_rfl
theorem itn_ntmps : Tryd.f73.ntmps = 16 := by kernel_rfl
theorem itn_results : Tryd.f73.results = #[] := by kernel_rfl
theorem itn_it : ItOK Tryd.prog theG 73 (itNonces 73) := by
  intro w β S N0 F L args vals ns xs hs hG M hargs l J Jx hJ hJx hY h0
  unfold itNonces at hs
  rw [Nat.beq_refl, cond_true] at hs
  split at hs
  case h_2 => cases hs
  rename_i n1 n2
  split at hs
  case h_2 => cases hs
  rename_i k p r t b n hL1 hL2
  cases hs
  have hne12 : n1 ≠ n2 := by
    intro e
    subst e
    rw [hL1] at hL2
    cases hL2
  obtain ⟨pt, cs1, T1, hβ1, hcs1, hrep1⟩ := M.blk n1 _ hL1
  obtain ⟨ph, cs2, T2, hβ2, hcs2, hrep2⟩ := M.blk n2 _ hL2
  have hrep1 : RepPV S w.heap (.sc .u32 k) cs1.toList := by cases hrep1 with | pv r => exact r
  have hrep2 : RepPV S w.heap (itn_hd p r t b n) cs2.toList := by cases hrep2 with | pv r => exact r
  have hrep1 := (hrep1.flat' (S2 := fun _ => False) rfl).mono (h' := #[]) (fun _ h => h) (fun _ h => h.elim)
  have hrep2 := (hrep2.flat' (S2 := fun _ => False) rfl).mono (h' := #[]) (fun _ h => h) (fun _ h => h.elim)
  have hfp : ∀ b, OwnBy β [n1, n2] b ↔ (b = pt ∨ b = ph) := fun b => by
    constructor
    · rintro ⟨m, hm, hf⟩
      simp at hm
      rcases hm with rfl | rfl
      · rw [hβ1] at hf
        exact .inl hf.symm
      · rw [hβ2] at hf
        exact .inr hf.symm
    · rintro (rfl | rfl)
      · exact ⟨n1, by simp, by rw [hβ1]; rfl⟩
      · exact ⟨n2, by simp, by rw [hβ2]; rfl⟩
  have hno1 := M.own n1 _ hL1 pt (by rw [hβ1]; rfl)
  have hno2 := M.own n2 _ hL2 ph (by rw [hβ2]; rfl)
  have hne : pt ≠ ph := by
    intro e
    exact M.sep n1 n2 hne12 (by rw [hL1]; rfl) (by rw [hL2]; rfl) pt (by rw [hβ1]; rfl) (by rw [hβ2, e]; rfl)
  -- the arguments
  have ptr : ∀ {m q : Nat} {x : PV} {v : Value}, L m = some (.box (.pv x)) → β m = .pointer (some ⟨q, 0, none⟩) → RepA β S w.heap L (.p m []) v → v = .pointer (some ⟨q, 0, none⟩) := by
    intro m q x v hL hβ a
    obtain ⟨vs, rv, ev⟩ := a
    cases rv with
    | p e1 e2 e3 =>
      rw [hL] at e1; cases e1
      rw [hβ] at e3
      simp only [baseAddr, Option.some.injEq, Addr.mk.injEq] at e3
      obtain ⟨rfl, rfl, _⟩ := e3
      rw [ev]
      show Value.pointer (some ⟨q, 0 + (A.pv x).off [], none⟩) = _
      rw [A.off_nil]
  obtain rfl : vals = #[.pointer (some ⟨pt, 0, none⟩), .pointer (some ⟨ph, 0, none⟩)] := by
    cases vals with
    | mk vl =>
    cases hargs with
    | cons a1 r1 =>
      cases r1 with
      | cons a2 r2 =>
        cases r2
        rw [ptr hL1 hβ1 a1, ptr hL2 hβ2 a2]
  have cEq : ∀ {W W' : World}, Ch (fun b => b = pt ∨ b = ph) W W' → Ch (OwnBy β [n1, n2]) W W' := fun h => ⟨h.size, fun b hb hn => h.keep b hb (fun e => hn ((hfp b).2 e)), h.os, h.tape, h.output⟩
  have hJ' : ∀ i W W', Ch (fun b => b = pt ∨ b = ph) W W' → J i W → J i W' := fun i W W' h => hJ i W W' (cEq h)
  have hY' : ∀ i x W (av : Array Value), (List.map encHead (nonL p r t b n k))[i]? = some x → w.heap.size ≤ W.heap.size → J i W → RepAs (fun _ => undef) (fun _ => False) #[] (fun _ => none) (x.map A.pv) av.toList →
        YieldAt Fence.wide 0 Tryd.prog l av W fun e W' => (e = .returned (.bool true) ∧ J (i + 1) W' ∧ Ch (fun b => ¬ (S b ∨ (b = pt ∨ b = ph))) W W') ∨ (e = .returned (.bool false) ∧ Jx W') := fun i x W av h1 h2 h3 h4 => by
    obtain ⟨fn, tm, asg, bd, g1, g2⟩ := hY i x W av h1 h2 h3 h4
    refine ⟨fn, tm, asg, bd, g1, g2.mono fun e W' => ?_⟩
    rintro (⟨rfl, j1, c1⟩ | h)
    · exact .inl ⟨rfl, j1, ⟨c1.size, fun b hb hn => c1.keep b hb (fun hn2 => hn (fun h => hn2 (h.imp id (hfp b).2))), c1.os, c1.tape, c1.output⟩⟩
    · exact .inr h
  have hlen : (List.map encHead (nonL p r t b n k)).length = k.toNat := by rw [List.length_map, nonL_len]
  rw [hlen]
  refine (callsIn_wide (n := 0)).1 (callsIn_of_wp_marks itn_func itn_body trivial ?_ rfl)
  refine wpIn_mono (Q := fun ex a w => (ex = .ret ∨ ex = .normal) ∧ a.defers = [] ∧ (J k.toNat w ∨ Jx w)) ?_ (fun ex a W hq => ?_)
  rotate_left
  · obtain ⟨he, hd, hq⟩ := hq
    have : LeavesInM Fence.wide 0 Tryd.prog Tryd.f73 a.tmps (fun e W' => (∃ v, e = .returned v) ∧ (J k.toNat W' ∨ Jx W')) a.defers .returning W := by
      rw [hd]
      exact ⟨.tuple #[], results_none itn_results _ _ _, ⟨_, rfl⟩, hq⟩
    rcases he with rfl | rfl <;> exact this
  obtain ⟨a0, ha0⟩ : ∃ a0 : Act, a0 = { tmps := (#[Value.func (.yield l) #[] #[]] ++ #[Value.pointer (some ⟨pt, 0, none⟩), Value.pointer (some ⟨ph, 0, none⟩)]) ++ Array.replicate (Tryd.f73.ntmps - (#[Value.func (.yield l) #[] #[]] ++ #[Value.pointer (some ⟨pt, 0, none⟩), Value.pointer (some ⟨ph, 0, none⟩)]).size) undef, defers := [] } := ⟨_, rfl⟩
  rw [← ha0]
  rw [itn_ntmps] at ha0
  have fr := frame_three (.func (.yield l) #[] #[]) (.pointer (some ⟨pt, 0, none⟩)) (.pointer (some ⟨ph, 0, none⟩)) 16 (by decide)
  have e0 : a0.tmps.getD 0 undef = .func (.yield l) #[] #[] := by rw [ha0]; exact fr.1
  have e1 : a0.tmps.getD 1 undef = .pointer (some ⟨pt, 0, none⟩) := by rw [ha0]; exact fr.2.1
  have e2 : a0.tmps.getD 2 undef = .pointer (some ⟨ph, 0, none⟩) := by rw [ha0]; exact fr.2.2.1
  have en : a0.tmps.size = 16 := by rw [ha0]; exact fr.2.2.2
  have ed : a0.defers = [] := by rw [ha0]
  have k0 : itn_k k 0 = k := by
    unfold itn_k
    rw [Nat.sub_zero, UInt32.ofNat_toNat]
  have n0 : itn_n n 0 = n := by
    unfold itn_n
    exact UInt32.add_zero n
  have h1 : ItH 16 S w (itn_bx pt ph p r t b n k) (itn_s p r t b n k) a0 w := by
    refine ⟨en, ed, fun q x hx => ?_, fun q m hm => ?_, rfl, fun q x hx => ?_, Nat.le_refl _, fun _ _ => rfl⟩
    · simp only [St.e, itn_s, lk_cons] at hx
      by_cases h : 1 = q
      · rw [if_pos h] at hx; cases hx
      · rw [if_neg h] at hx
        by_cases h' : 2 = q
        · rw [if_pos h'] at hx; cases hx
        · rw [if_neg h'] at hx; cases hx
    · simp only [St.e, itn_s, lk_cons] at hm
      by_cases h : 1 = q
      · rw [if_pos h] at hm
        cases hm
        subst h
        exact ⟨pt, .sc .u32 k, Nat.le_refl _, rfl, e1⟩
      · rw [if_neg h] at hm
        by_cases h' : 2 = q
        · rw [if_pos h'] at hm
          cases hm
          subst h'
          exact ⟨ph, itn_hd p r t b n, by decide, rfl, e2⟩
        · rw [if_neg h'] at hm; cases hm
    · simp at hx
      rcases hx with ⟨rfl, rfl⟩ | ⟨rfl, rfl⟩
      · exact ⟨cs1, T1, hcs1, hrep1⟩
      · exact ⟨cs2, T2, hcs2, hrep2⟩
  have hS : ∀ b, S b → b < w.heap.size := M.bound
  clear ha0
  rw [itn_code]
  refine wpIn_block (wpIn_loop_rounds (k.toNat + 1) ?_)
  have h3 : ItnH w S pt ph l p r t b n k J 0 a0 w := ⟨by rw [k0, n0]; exact h1, e0, h0⟩
  have hr := itn_loop (Jx := Jx) hG hS ⟨hno1.1, hno2.1⟩ hne hJ' hY' k.toNat (i := 0) (Nat.zero_add _) h3
  exact roundsIn_mono (fun ex a W h => by
    rcases h.1 with ⟨rfl, hj⟩ | ⟨rfl, hx⟩
    · exact ⟨.inr rfl, h.2, .inl hj⟩
    · exact ⟨.inl rfl, h.2, .inr hx⟩) _ hr
end
theorem itNonces_ok : ItsOK Tryd.prog theG itNonces := by
  intro gf args L r h
  have hgf : gf = 73 := by
    unfold itNonces at h
    cases hb : Nat.beq gf 73 with
    | true => exact nbeq.1 hb
    | false => rw [hb] at h; cases h
  subst hgf
  exact ⟨by kernel_rfl, itn_it⟩

end
end Go.Proofs.YtbdajagcinfeeaaDoor.M

namespace Go.Proofs.YtbdajagcinfeeaaDoor.M
open Go
noncomputable section
set_option maxRecDepth 100000
set_option maxHeartbeats 0
noncomputable def head_Mine_T : Tbl := [(54, [], target_Of_c), (55, [], head_nonces_c), (25, [], head_Works_c)]
noncomputable def head_Mine_C : CfgW := mkC Tryd.prog theG head_Mine_T 26 0 false itNonces
def head_Mine_lv : Nat → List Nat := fun i => bif Nat.beq i 3000000 then [8, 4, 5] else []
noncomputable abbrev head_Mine_b : Code := Tryd.f32.body.getD .skip
noncomputable abbrev head_Mine_r : List ResultVar := Tryd.f32.results.toList
def head_Mine_hs : List Nat := []

def head_Mine_enc (r : Vector UInt8 32 × Vector UInt8 32 × UInt32 × UInt32 × UInt32 × Int) : CallOut := ⟨.tup [.pv (.st [.arr .u8 32 r.1, .arr .u8 32 r.2.1, .sc .u32 r.2.2.1, .sc .u32 r.2.2.2.1, .sc .u32 r.2.2.2.2.1]), .pv (.sc .i r.2.2.2.2.2)], [], true, []⟩
def head_Mine_s500000 (t4 : Vector UInt8 32) (t41 : Vector UInt8 32) (t42 : UInt32) (t43 : UInt32) (t44 : UInt32) (t5 : Int) : St := ⟨[(4, .p 60000 []), (5, .p 60001 [])], [(60000, .box (.pv (.st [.arr .u8 32 t4, .arr .u8 32 t41, .sc .u32 t42, .sc .u32 t43, .sc .u32 t44]))), (60001, .box (.pv (.sc .i t5)))]⟩
theorem head_Mine_gn0 (t4 : Vector UInt8 32) (t41 : Vector UInt8 32) (t42 : UInt32) (t43 : UInt32) (t44 : UInt32) (t5 : Int) (Q : CallOut → Prop) : rngNil head_Mine_C head_Mine_lv [true, true, false, true, false] head_Mine_b (head_Mine_s500000 t4 t41 t42 t43 t44 t5) (fnK head_Mine_C head_Mine_r head_Mine_hs Q) =
    (Q (head_Mine_enc ((Vector.replicate (32 : Nat) (0 : UInt8)), (Vector.replicate (32 : Nat) (0 : UInt8)), (0 : UInt32), (0 : UInt32), (0 : UInt32), (6 : Int)))) := by kernel_rfl
theorem head_Mine_gc0 (p : Vector UInt8 32) (r : Vector UInt8 32) (t : UInt32) (b : UInt32) (n : UInt32) (es : List ((Vector UInt8 32) × (Vector UInt8 32) × UInt32 × UInt32 × UInt32)) (t4 : Vector UInt8 32) (t41 : Vector UInt8 32) (t42 : UInt32) (t43 : UInt32) (t44 : UInt32) (t5 : Int) (Q : CallOut → Prop) : rngCons head_Mine_C head_Mine_lv [true, true, false, true, false] head_Mine_b [.st [.arr .u8 32 p, .arr .u8 32 r, .sc .u32 t, .sc .u32 b, .sc .u32 n]] (List.map encHead es) (head_Mine_s500000 t4 t41 t42 t43 t44 t5) (fnK head_Mine_C head_Mine_r head_Mine_hs Q) =
    (condP (meetsS (idV p r t b n) b) (Q (head_Mine_enc (p, r, t, b, n, (0 : Int)))) (rngHP head_Mine_C head_Mine_lv [true, true, false, true, false] head_Mine_b (List.map encHead es) (head_Mine_s500000 t4 t41 t42 t43 t44 t5) (fnK head_Mine_C head_Mine_r head_Mine_hs Q))) := by kernel_rfl
theorem head_Mine_kr0 {r : Vector UInt8 32 × Vector UInt8 32 × UInt32 × UInt32 × UInt32 × Int} {Q : CallOut → Prop} (hQ : Q (head_Mine_enc r)) : ∀ (es : List ((Vector UInt8 32) × (Vector UInt8 32) × UInt32 × UInt32 × UInt32)) (t4 : Vector UInt8 32) (t41 : Vector UInt8 32) (t42 : UInt32) (t43 : UInt32) (t44 : UInt32) (t5 : Int), head_Mine_r0 es t4 t41 t42 t43 t44 t5 = some r → rngHP head_Mine_C head_Mine_lv [true, true, false, true, false] head_Mine_b (List.map encHead es) (head_Mine_s500000 t4 t41 t42 t43 t44 t5) (fnK head_Mine_C head_Mine_r head_Mine_hs Q)
  | [], t4, t41, t42, t43, t44, t5 => fun h => rngHP_nil (Eq.mpr (head_Mine_gn0 t4 t41 t42 t43 t44 t5 Q) (have h := (head_Mine_r0_n t4 t41 t42 t43 t44 t5).symm.trans h; ret_ok (Q := Q) (e := head_Mine_enc) h hQ))
  | (p, r, t, b, n) :: es, t4, t41, t42, t43, t44, t5 => fun h => rngHP_cons (Eq.mpr (head_Mine_gc0 p r t b n es t4 t41 t42 t43 t44 t5 Q) (have h := (head_Mine_r0_c p r t b n es t4 t41 t42 t43 t44 t5).symm.trans h; cond_ok h (fun h => ret_ok (Q := Q) (e := head_Mine_enc) h hQ) (fun h => head_Mine_kr0 hQ es _ _ _ _ _ _ h)))
theorem head_Mine_e (h_0_Prev : Vector UInt8 32) (h_0_Root : Vector UInt8 32) (h_0_Time : UInt32) (h_0_Bits : UInt32) (h_0_Nonce : UInt32) (tries : UInt32) (Q : CallOut → Prop) : evalFnP head_Mine_C head_Mine_lv head_Mine_r head_Mine_hs head_Mine_b [.pv (.st [.arr .u8 32 h_0_Prev, .arr .u8 32 h_0_Root, .sc .u32 h_0_Time, .sc .u32 h_0_Bits, .sc .u32 h_0_Nonce]), .pv (.sc .u32 tries)] [] Q =
    (condP (!(decide ((ofE h_0_Bits) = (0 : Int)))) (Q (head_Mine_enc ((Vector.replicate (32 : Nat) (0 : UInt8)), (Vector.replicate (32 : Nat) (0 : UInt8)), (0 : UInt32), (0 : UInt32), (0 : UInt32), (5 : Int)))) (rngHP head_Mine_C head_Mine_lv [true, true, false, true, false] head_Mine_b (List.map encHead (nonL h_0_Prev h_0_Root h_0_Time h_0_Bits h_0_Nonce tries)) (head_Mine_s500000 (Vector.replicate (32 : Nat) (0 : UInt8)) (Vector.replicate (32 : Nat) (0 : UInt8)) (0 : UInt32) (0 : UInt32) (0 : UInt32) (0 : Int)) (fnK head_Mine_C head_Mine_r head_Mine_hs Q))) := by kernel_rfl
theorem head_Mine_w (h_0_Prev : Vector UInt8 32) (h_0_Root : Vector UInt8 32) (h_0_Time : UInt32) (h_0_Bits : UInt32) (h_0_Nonce : UInt32) (tries : UInt32) {r} {Q : CallOut → Prop} (h : head_Mine h_0_Prev h_0_Root h_0_Time h_0_Bits h_0_Nonce tries = some r) (hQ : Q (head_Mine_enc r)) : evalFnP head_Mine_C head_Mine_lv head_Mine_r head_Mine_hs head_Mine_b [.pv (.st [.arr .u8 32 h_0_Prev, .arr .u8 32 h_0_Root, .sc .u32 h_0_Time, .sc .u32 h_0_Bits, .sc .u32 h_0_Nonce]), .pv (.sc .u32 tries)] [] Q :=
  Eq.mpr (head_Mine_e h_0_Prev h_0_Root h_0_Time h_0_Bits h_0_Nonce tries Q) (have h := (head_Mine_q h_0_Prev h_0_Root h_0_Time h_0_Bits h_0_Nonce tries).symm.trans h; cond_ok h (fun h => ret_ok (Q := Q) (e := head_Mine_enc) h hQ) (fun h => (head_Mine_kr0 hQ) _ _ _ _ _ _ _ h))
def head_Mine_c : Ans
  | [.pv (.st [.arr .u8 32 h_0_Prev, .arr .u8 32 h_0_Root, .sc .u32 h_0_Time, .sc .u32 h_0_Bits, .sc .u32 h_0_Nonce]), .pv (.sc .u32 tries)], [] => some (none, head_Mine_enc ((mnV h_0_Prev h_0_Root h_0_Time h_0_Bits h_0_Nonce tries h_0_Prev, mnV h_0_Prev h_0_Root h_0_Time h_0_Bits h_0_Nonce tries h_0_Root, mnW h_0_Prev h_0_Root h_0_Time h_0_Bits h_0_Nonce tries h_0_Time, mnW h_0_Prev h_0_Root h_0_Time h_0_Bits h_0_Nonce tries h_0_Bits, mnN h_0_Prev h_0_Root h_0_Time h_0_Bits h_0_Nonce tries, mnE h_0_Prev h_0_Root h_0_Time h_0_Bits h_0_Nonce tries)))
  | _, _ => none
theorem head_Mine_tok : TblOK Tryd.prog theG head_Mine_T := .cons ⟨by kernel_rfl, target_Of_ok⟩ (.cons ⟨by kernel_rfl, head_nonces_ok⟩ (.cons ⟨by kernel_rfl, head_Works_ok⟩ (.nil)))
theorem head_Mine_ok : FnOK Tryd.prog theG 32 (unW head_Mine_c) := by
  refine FnOK.ofC (T := head_Mine_T) (nt := 26) (np := 0) (mv := []) (it := itNonces) (nf := false) (hs := head_Mine_hs) (fn := Tryd.f32) (body := head_Mine_b) head_Mine_tok (by kernel_rfl) (by kernel_rfl) (by kernel_rfl) (by kernel_rfl) (c := head_Mine_c) (lv := head_Mine_lv) ?_ itNonces_ok
  intro xs mem p out h hp
  unfold head_Mine_c at h
  split at h
  · cases h
    exact head_Mine_w _ _ _ _ _ _ (head_Mine_spec _ _ _ _ _ _) rfl
  · cases h
end
end Go.Proofs.YtbdajagcinfeeaaDoor.M

namespace Go.Proofs.YtbdajagcinfeeaaDoor.M
open Go
noncomputable section
set_option maxRecDepth 100000
set_option maxHeartbeats 0
noncomputable def head_Get1_T : Tbl := [(51, [], ends_Get_c)]
noncomputable def head_Get1_C : CfgW := mkC Tryd.prog theG head_Get1_T 14 0 false
def head_Get1_lv : Nat → List Nat := fun i => []
noncomputable abbrev head_Get1_b : Code := Tryd.f50.body.getD .skip
noncomputable abbrev head_Get1_r : List ResultVar := Tryd.f50.results.toList
def head_Get1_hs : List Nat := []

def head_Get1_enc (r : UInt32) : CallOut := ⟨.pv (.sc .u32 r), [], true, []⟩
theorem head_Get1_e (at_0 : Int) (l : List UInt8) (Q : CallOut → Prop) : evalFnP head_Get1_C head_Get1_lv head_Get1_r head_Get1_hs head_Get1_b [.pv (.sc .i at_0), .rp (.sl .u8 l)] [] Q =
    (((List.length l) ≤ (140737488351232 : Nat)) ∧ (Q (head_Get1_enc (UInt64.toUInt32 (getN l at_0 (4 : Int)))))) := by kernel_rfl
theorem head_Get1_w (at_0 : Int) (l : List UInt8) {r} {Q : CallOut → Prop} (h : head_Get1 at_0 l = some r) (hQ : Q (head_Get1_enc r)) : evalFnP head_Get1_C head_Get1_lv head_Get1_r head_Get1_hs head_Get1_b [.pv (.sc .i at_0), .rp (.sl .u8 l)] [] Q :=
  Eq.mpr (head_Get1_e at_0 l Q) (have h := (head_Get1_q at_0 l).symm.trans h; ite_ok h fun hc0 h => ret_ok (Q := Q) (e := head_Get1_enc) h hQ)
def head_Get1_c : Ans
  | [.pv (.sc .i at_0), .rp (.sl .u8 l)], [] => some (some (l.length ≤ 140737488351232), head_Get1_enc (UInt64.toUInt32 (getN l at_0 4)))
  | _, _ => none
theorem head_Get1_tok : TblOK Tryd.prog theG head_Get1_T := .cons ⟨by kernel_rfl, ends_Get_ok⟩ (.nil)
theorem head_Get1_ok : FnOK Tryd.prog theG 50 (unW head_Get1_c) := by
  refine FnOK.ofC (T := head_Get1_T) (nt := 14) (np := 0) (mv := []) (nf := false) (hs := head_Get1_hs) (fn := Tryd.f50) (body := head_Get1_b) head_Get1_tok (by kernel_rfl) (by kernel_rfl) (by kernel_rfl) (by kernel_rfl) (c := head_Get1_c) (lv := head_Get1_lv) ?_
  intro xs mem p out h hp
  unfold head_Get1_c at h
  split at h
  · cases h
    exact head_Get1_w _ _ (head_Get1_spec _ _ hp) rfl
  · cases h
end
end Go.Proofs.YtbdajagcinfeeaaDoor.M

namespace Go.Proofs.YtbdajagcinfeeaaDoor.M
open Go
noncomputable section
set_option maxRecDepth 100000
set_option maxHeartbeats 0
noncomputable def head_Get_T : Tbl := [(49, [], ends_Part_c), (50, [], head_Get1_c)]
noncomputable def head_Get_C : CfgW := mkC Tryd.prog theG head_Get_T 40 0 false
def head_Get_lv : Nat → List Nat := fun i => bif Nat.beq i 1000004 then [2007] else []
noncomputable abbrev head_Get_b : Code := Tryd.f28.body.getD .skip
noncomputable abbrev head_Get_r : List ResultVar := Tryd.f28.results.toList
def head_Get_hs : List Nat := []

def head_Get_enc (r : Vector UInt8 32 × Vector UInt8 32 × UInt32 × UInt32 × UInt32 × Int × Int) : CallOut := ⟨.tup [.pv (.st [.arr .u8 32 r.1, .arr .u8 32 r.2.1, .sc .u32 r.2.2.1, .sc .u32 r.2.2.2.1, .sc .u32 r.2.2.2.2.1]), .pv (.sc .i r.2.2.2.2.2.1), .pv (.sc .i r.2.2.2.2.2.2)], [], true, []⟩
theorem head_Get_e (b : List UInt8) (at_1 : Int) (Q : CallOut → Prop) : evalFnP head_Get_C head_Get_lv head_Get_r head_Get_hs head_Get_b [.pv (.sl .u8 b), .pv (.sc .i at_1)] [] Q =
    ((((List.length b) ≤ (140737488351232 : Nat)) ∧ ((76 : Int) ≤ (70368744177664 : Int))) ∧ (condP (!(decide ((partE b at_1 (76 : Int)) = (0 : Int)))) (Q (head_Get_enc ((Vector.replicate (32 : Nat) (0 : UInt8)), (Vector.replicate (32 : Nat) (0 : UInt8)), (0 : UInt32), (0 : UInt32), (0 : UInt32), (0 : Int), (partE b at_1 (76 : Int))))) ((((0 : Int) ≤ (0 : Int)) ∧ (((0 : Int) ≤ (32 : Int)) ∧ ((32 : Int) ≤ (((List.length (partL b at_1 (76 : Int))) : Nat) : Int)))) ∧ ((((32 : Nat) ≤ (List.length (List.take ((Int.toNat (32 : Int)) - (Int.toNat (0 : Int))) (List.drop (Int.toNat (0 : Int)) (partL b at_1 (76 : Int)))))) ∧ ((0 : Nat) < (32 : Nat))) ∧ ((((0 : Int) ≤ (32 : Int)) ∧ (((32 : Int) ≤ (64 : Int)) ∧ ((64 : Int) ≤ (((List.length (partL b at_1 (76 : Int))) : Nat) : Int)))) ∧ ((((32 : Nat) ≤ (List.length (List.take ((Int.toNat (64 : Int)) - (Int.toNat (32 : Int))) (List.drop (Int.toNat (32 : Int)) (partL b at_1 (76 : Int)))))) ∧ ((0 : Nat) < (32 : Nat))) ∧ (((List.length (partL b at_1 (76 : Int))) ≤ (140737488351232 : Nat)) ∧ (((List.length (partL b at_1 (76 : Int))) ≤ (140737488351232 : Nat)) ∧ (((List.length (partL b at_1 (76 : Int))) ≤ (140737488351232 : Nat)) ∧ (Q (head_Get_enc ((Vector.ofFn (fun (z3 : Fin 32) => (List.getD (List.take ((Int.toNat (32 : Int)) - (Int.toNat (0 : Int))) (List.drop (Int.toNat (0 : Int)) (partL b at_1 (76 : Int)))) ((0 : Nat) + (Fin.val z3)) (0 : UInt8)))), (Vector.ofFn (fun (z3 : Fin 32) => (List.getD (List.take ((Int.toNat (64 : Int)) - (Int.toNat (32 : Int))) (List.drop (Int.toNat (32 : Int)) (partL b at_1 (76 : Int)))) ((0 : Nat) + (Fin.val z3)) (0 : UInt8)))), (UInt64.toUInt32 (getN (partL b at_1 (76 : Int)) (64 : Int) (4 : Int))), (UInt64.toUInt32 (getN (partL b at_1 (76 : Int)) (68 : Int) (4 : Int))), (UInt64.toUInt32 (getN (partL b at_1 (76 : Int)) (72 : Int) (4 : Int))), (w64 (at_1 + (76 : Int))), (0 : Int))))))))))))) := by kernel_rfl
theorem head_Get_w (b : List UInt8) (at_1 : Int) {r} {Q : CallOut → Prop} (h : head_Get b at_1 = some r) (hQ : Q (head_Get_enc r)) : evalFnP head_Get_C head_Get_lv head_Get_r head_Get_hs head_Get_b [.pv (.sl .u8 b), .pv (.sc .i at_1)] [] Q :=
  Eq.mpr (head_Get_e b at_1 Q) (have h := (head_Get_q b at_1).symm.trans h; ite_ok h fun hc0 h => cond_ok h (fun h => ret_ok (Q := Q) (e := head_Get_enc) h hQ) (fun h => ite_ok h fun hc1 h => ite_ok h fun hc2 h => ite_ok h fun hc3 h => ite_ok h fun hc4 h => ite_ok h fun hc5 h => ⟨hc5, ⟨hc5, ret_ok (Q := Q) (e := head_Get_enc) h hQ⟩⟩))
def head_Get_c : Ans
  | [.pv (.sl .u8 b), .pv (.sc .i at_1)], [] => some (some (b.length ≤ 140737488351232), head_Get_enc ((hgP b at_1, hgR b at_1, hgT b at_1, hgB b at_1, hgN b at_1, hgI b at_1, partE b at_1 76)))
  | _, _ => none
theorem head_Get_tok : TblOK Tryd.prog theG head_Get_T := .cons ⟨by kernel_rfl, ends_Part_ok⟩ (.cons ⟨by kernel_rfl, head_Get1_ok⟩ (.nil))
theorem head_Get_ok : FnOK Tryd.prog theG 28 (unW head_Get_c) := by
  refine FnOK.ofC (T := head_Get_T) (nt := 40) (np := 0) (mv := []) (nf := false) (hs := head_Get_hs) (fn := Tryd.f28) (body := head_Get_b) head_Get_tok (by kernel_rfl) (by kernel_rfl) (by kernel_rfl) (by kernel_rfl) (c := head_Get_c) (lv := head_Get_lv) ?_
  intro xs mem p out h hp
  unfold head_Get_c at h
  split at h
  · cases h
    exact head_Get_w _ _ (head_Get_spec _ _ hp) rfl
  · cases h
end
end Go.Proofs.YtbdajagcinfeeaaDoor.M

namespace Go.Proofs.YtbdajagcinfeeaaDoor.M
open Go
noncomputable section
set_option maxRecDepth 100000
set_option maxHeartbeats 0
noncomputable def head_Read_T : Tbl := [(28, [], head_Get_c)]
noncomputable def head_Read_C : CfgW := mkC Tryd.prog theG head_Read_T 26 0 false
def head_Read_lv : Nat → List Nat := fun i => []
noncomputable abbrev head_Read_b : Code := Tryd.f30.body.getD .skip
noncomputable abbrev head_Read_r : List ResultVar := Tryd.f30.results.toList
def head_Read_hs : List Nat := []

def head_Read_enc (r : Vector UInt8 32 × Vector UInt8 32 × UInt32 × UInt32 × UInt32 × Int) : CallOut := ⟨.tup [.pv (.st [.arr .u8 32 r.1, .arr .u8 32 r.2.1, .sc .u32 r.2.2.1, .sc .u32 r.2.2.2.1, .sc .u32 r.2.2.2.2.1]), .pv (.sc .i r.2.2.2.2.2)], [], true, []⟩
theorem head_Read_e (b : List UInt8) (Q : CallOut → Prop) : evalFnP head_Read_C head_Read_lv head_Read_r head_Read_hs head_Read_b [.pv (.sl .u8 b)] [] Q =
    (((List.length b) ≤ (140737488351232 : Nat)) ∧ (condP (eqb (decide ((partE b (0 : Int) (76 : Int)) = (0 : Int))) true) (condP (bif true then (decide ((hgI b (0 : Int)) < (((List.length b) : Nat) : Int))) else false) (Q (head_Read_enc ((Vector.replicate (32 : Nat) (0 : UInt8)), (Vector.replicate (32 : Nat) (0 : UInt8)), (0 : UInt32), (0 : UInt32), (0 : UInt32), (5 : Int)))) (condP (!(decide ((partE b (0 : Int) (76 : Int)) = (0 : Int)))) (Q (head_Read_enc ((Vector.replicate (32 : Nat) (0 : UInt8)), (Vector.replicate (32 : Nat) (0 : UInt8)), (0 : UInt32), (0 : UInt32), (0 : UInt32), (partE b (0 : Int) (76 : Int))))) (Q (head_Read_enc ((hgP b (0 : Int)), (hgR b (0 : Int)), (hgT b (0 : Int)), (hgB b (0 : Int)), (hgN b (0 : Int)), (0 : Int)))))) (condP (!(decide ((partE b (0 : Int) (76 : Int)) = (0 : Int)))) (Q (head_Read_enc ((Vector.replicate (32 : Nat) (0 : UInt8)), (Vector.replicate (32 : Nat) (0 : UInt8)), (0 : UInt32), (0 : UInt32), (0 : UInt32), (partE b (0 : Int) (76 : Int))))) (Q (head_Read_enc ((hgP b (0 : Int)), (hgR b (0 : Int)), (hgT b (0 : Int)), (hgB b (0 : Int)), (hgN b (0 : Int)), (0 : Int))))))) := by kernel_rfl
theorem head_Read_w (b : List UInt8) {r} {Q : CallOut → Prop} (h : head_Read b = some r) (hQ : Q (head_Read_enc r)) : evalFnP head_Read_C head_Read_lv head_Read_r head_Read_hs head_Read_b [.pv (.sl .u8 b)] [] Q :=
  Eq.mpr (head_Read_e b Q) (have h := (head_Read_q b).symm.trans h; ite_ok h fun hc0 h => cond_ok h (fun h => cond_ok h (fun h => ret_ok (Q := Q) (e := head_Read_enc) h hQ) (fun h => cond_ok h (fun h => ret_ok (Q := Q) (e := head_Read_enc) h hQ) (fun h => ret_ok (Q := Q) (e := head_Read_enc) h hQ))) (fun h => cond_ok h (fun h => ret_ok (Q := Q) (e := head_Read_enc) h hQ) (fun h => ret_ok (Q := Q) (e := head_Read_enc) h hQ)))
def head_Read_c : Ans
  | [.pv (.sl .u8 b)], [] => some (some (b.length ≤ 140737488351232), head_Read_enc ((rdV b (hgP b 0), rdV b (hgR b 0), rdW b (hgT b 0), rdW b (hgB b 0), rdW b (hgN b 0), rdE b)))
  | _, _ => none
theorem head_Read_tok : TblOK Tryd.prog theG head_Read_T := .cons ⟨by kernel_rfl, head_Get_ok⟩ (.nil)
theorem head_Read_ok : FnOK Tryd.prog theG 30 (unW head_Read_c) := by
  refine FnOK.ofC (T := head_Read_T) (nt := 26) (np := 0) (mv := []) (nf := false) (hs := head_Read_hs) (fn := Tryd.f30) (body := head_Read_b) head_Read_tok (by kernel_rfl) (by kernel_rfl) (by kernel_rfl) (by kernel_rfl) (c := head_Read_c) (lv := head_Read_lv) ?_
  intro xs mem p out h hp
  unfold head_Read_c at h
  split at h
  · cases h
    exact head_Read_w _ (head_Read_spec _ hp) rfl
  · cases h
end
end Go.Proofs.YtbdajagcinfeeaaDoor.M

namespace Go.Proofs.YtbdajagcinfeeaaDoor.M
open Go
noncomputable section
set_option maxRecDepth 100000
set_option maxHeartbeats 0
noncomputable def head_Begin_T : Tbl := []
noncomputable def head_Begin_C : CfgW := mkC Tryd.prog theG head_Begin_T 2 0 false
def head_Begin_lv : Nat → List Nat := fun i => []
noncomputable abbrev head_Begin_b : Code := Tryd.f48.body.getD .skip
noncomputable abbrev head_Begin_r : List ResultVar := Tryd.f48.results.toList
def head_Begin_hs : List Nat := []

def head_Begin_enc (r : Vector UInt8 32 × Vector UInt8 32 × UInt32 × UInt32 × UInt32) : CallOut := ⟨.pv (.st [.arr .u8 32 r.1, .arr .u8 32 r.2.1, .sc .u32 r.2.2.1, .sc .u32 r.2.2.2.1, .sc .u32 r.2.2.2.2]), [], true, []⟩
theorem head_Begin_e  (Q : CallOut → Prop) : evalFnP head_Begin_C head_Begin_lv head_Begin_r head_Begin_hs head_Begin_b [] [] Q =
    (Q (head_Begin_enc ((Vector.replicate (32 : Nat) (0 : UInt8)), (Vector.replicate (32 : Nat) (0 : UInt8)), (0 : UInt32), (545259519 : UInt32), (0 : UInt32)))) := by kernel_rfl
theorem head_Begin_w  {Q : CallOut → Prop} (h : Q (head_Begin_enc (head_Begin ))) : evalFnP head_Begin_C head_Begin_lv head_Begin_r head_Begin_hs head_Begin_b [] [] Q :=
  Eq.mpr (head_Begin_e  Q) (have h := Eq.mp (congrArg (fun r => Q (head_Begin_enc r)) (head_Begin_q )) h; h)
def head_Begin_c : Ans
  | [], [] => some (none, head_Begin_enc (head_Begin ))
  | _, _ => none
theorem head_Begin_tok : TblOK Tryd.prog theG head_Begin_T := .nil
theorem head_Begin_ok : FnOK Tryd.prog theG 48 (unW head_Begin_c) := by
  refine FnOK.ofC (T := head_Begin_T) (nt := 2) (np := 0) (mv := []) (nf := false) (hs := head_Begin_hs) (fn := Tryd.f48) (body := head_Begin_b) head_Begin_tok (by kernel_rfl) (by kernel_rfl) (by kernel_rfl) (by kernel_rfl) (c := head_Begin_c) (lv := head_Begin_lv) ?_
  intro xs mem p out h hp
  unfold head_Begin_c at h
  split at h
  · cases h
    exact head_Begin_w  rfl
  · cases h
end
end Go.Proofs.YtbdajagcinfeeaaDoor.M
