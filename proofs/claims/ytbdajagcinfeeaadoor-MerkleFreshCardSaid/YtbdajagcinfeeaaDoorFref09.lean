/- Part of the proofs: what functions of the program do: plain functions, and the walks that show it. No condition. -/
import Derived.KernelRfl
import Derived.Test.YtbdajagcinfeeaaDoorProg
import Derived.Test.YtbdajagcinfeeaaDoorLe
import Derived.Test.YtbdajagcinfeeaaDoorFref02
import Derived.Test.YtbdajagcinfeeaaDoorSwords
import Derived.Test.YtbdajagcinfeeaaDoorSshaS
import Derived.Test.YtbdajagcinfeeaaDoorSmerS
import Derived.Test.YtbdajagcinfeeaaDoorSshaK
set_option linter.unusedVariables false
set_option linter.unusedSimpArgs false
set_option autoImplicit false
namespace Go.Proofs.YtbdajagcinfeeaaDoor.M
open Go
noncomputable section
mutual
/-- the loop 0 of moneyer/moneyerref09.rows -/
def ref09_rows_h0 : Nat → (List PV) → Bool → (Vector UInt32 8) → (Vector UInt32 64) → (List PV) → Option (Bool × List PV)
  | 0, _, _, _, _, _ => none
  | k + 1, l, sound, s, s1, out => bif decide ((1 : Int) < (((List.length l) : Nat) : Int)) then (ref09_rows_h2 k l sound (0 : Int) s s1 out ([] : List PV))
      else (some (sound, out))
/-- the loop 2 of moneyer/moneyerref09.rows -/
def ref09_rows_h2 : Nat → (List PV) → Bool → Int → (Vector UInt32 8) → (Vector UInt32 64) → (List PV) → (List PV) → Option (Bool × List PV)
  | 0, _, _, _, _, _, _, _ => none
  | k + 1, l, sound, i, s, s1, out, up => bif decide (i < (((List.length l) : Nat) : Int)) then (if (((0 : Int) ≤ i) ∧ (i < (((List.length l) : Nat) : Int))) ∧ ((TY.chk (TY.arr EK.u8 (32 : Nat)) (List.getD l (Int.toNat i) PV.nilp)) = true) then
        bif decide ((w64 (i + (1 : Int))) < (((List.length l) : Nat) : Int)) then (if (((0 : Int) ≤ (w64 (i + (1 : Int)))) ∧ ((w64 (i + (1 : Int))) < (((List.length l) : Nat) : Int))) ∧ ((TY.chk (TY.arr EK.u8 (32 : Nat)) (List.getD l (Int.toNat (w64 (i + (1 : Int)))) PV.nilp)) = true) then
            bif decide ((Vector.toList (PV.vecv EK.u8 (32 : Nat) (List.getD l (Int.toNat i) PV.nilp))) = (Vector.toList (PV.vecv EK.u8 (32 : Nat) (List.getD l (Int.toNat (w64 (i + (1 : Int)))) PV.nilp)))) then (if (((List.length ((Vector.toList (PV.vecv EK.u8 (32 : Nat) (List.getD l (Int.toNat i) PV.nilp))) ++ (Vector.toList (PV.vecv EK.u8 (32 : Nat) (List.getD l (Int.toNat (w64 (i + (1 : Int)))) PV.nilp))))) * (1 : Nat)) ≤ (70368744177664 : Nat)) ∧ ((List.length ((Vector.toList (PV.vecv EK.u8 (32 : Nat) (List.getD l (Int.toNat i) PV.nilp))) ++ (Vector.toList (PV.vecv EK.u8 (32 : Nat) (List.getD l (Int.toNat (w64 (i + (1 : Int)))) PV.nilp))))) ≤ (70368744177664 : Nat)) then
                if ((List.length ((Vector.toList (PV.vecv EK.u8 (32 : Nat) (List.getD l (Int.toNat i) PV.nilp))) ++ (Vector.toList (PV.vecv EK.u8 (32 : Nat) (List.getD l (Int.toNat (w64 (i + (1 : Int)))) PV.nilp))))) ≤ (1099511627776 : Nat)) ∧ ((s = shaInit) ∧ (s1 = shaK)) then
                  if (((List.length (up ++ ([(PV.arr EK.u8 (32 : Nat) (shaSum (Vector.toList (shaSum ((Vector.toList (PV.vecv EK.u8 (32 : Nat) (List.getD l (Int.toNat i) PV.nilp))) ++ (Vector.toList (PV.vecv EK.u8 (32 : Nat) (List.getD l (Int.toNat (w64 (i + (1 : Int)))) PV.nilp))))))))] : List PV))) * (32 : Nat)) ≤ (70368744177664 : Nat)) ∧ ((List.length (up ++ ([(PV.arr EK.u8 (32 : Nat) (shaSum (Vector.toList (shaSum ((Vector.toList (PV.vecv EK.u8 (32 : Nat) (List.getD l (Int.toNat i) PV.nilp))) ++ (Vector.toList (PV.vecv EK.u8 (32 : Nat) (List.getD l (Int.toNat (w64 (i + (1 : Int)))) PV.nilp))))))))] : List PV))) ≤ (70368744177664 : Nat)) then
                    ref09_rows_h2 k l false (w64 (i + (2 : Int))) s s1 out (up ++ ([(PV.arr EK.u8 (32 : Nat) (shaSum (Vector.toList (shaSum ((Vector.toList (PV.vecv EK.u8 (32 : Nat) (List.getD l (Int.toNat i) PV.nilp))) ++ (Vector.toList (PV.vecv EK.u8 (32 : Nat) (List.getD l (Int.toNat (w64 (i + (1 : Int)))) PV.nilp))))))))] : List PV))
                  else none
                else none
              else none)
              else (if (((List.length ((Vector.toList (PV.vecv EK.u8 (32 : Nat) (List.getD l (Int.toNat i) PV.nilp))) ++ (Vector.toList (PV.vecv EK.u8 (32 : Nat) (List.getD l (Int.toNat (w64 (i + (1 : Int)))) PV.nilp))))) * (1 : Nat)) ≤ (70368744177664 : Nat)) ∧ ((List.length ((Vector.toList (PV.vecv EK.u8 (32 : Nat) (List.getD l (Int.toNat i) PV.nilp))) ++ (Vector.toList (PV.vecv EK.u8 (32 : Nat) (List.getD l (Int.toNat (w64 (i + (1 : Int)))) PV.nilp))))) ≤ (70368744177664 : Nat)) then
                if ((List.length ((Vector.toList (PV.vecv EK.u8 (32 : Nat) (List.getD l (Int.toNat i) PV.nilp))) ++ (Vector.toList (PV.vecv EK.u8 (32 : Nat) (List.getD l (Int.toNat (w64 (i + (1 : Int)))) PV.nilp))))) ≤ (1099511627776 : Nat)) ∧ ((s = shaInit) ∧ (s1 = shaK)) then
                  if (((List.length (up ++ ([(PV.arr EK.u8 (32 : Nat) (shaSum (Vector.toList (shaSum ((Vector.toList (PV.vecv EK.u8 (32 : Nat) (List.getD l (Int.toNat i) PV.nilp))) ++ (Vector.toList (PV.vecv EK.u8 (32 : Nat) (List.getD l (Int.toNat (w64 (i + (1 : Int)))) PV.nilp))))))))] : List PV))) * (32 : Nat)) ≤ (70368744177664 : Nat)) ∧ ((List.length (up ++ ([(PV.arr EK.u8 (32 : Nat) (shaSum (Vector.toList (shaSum ((Vector.toList (PV.vecv EK.u8 (32 : Nat) (List.getD l (Int.toNat i) PV.nilp))) ++ (Vector.toList (PV.vecv EK.u8 (32 : Nat) (List.getD l (Int.toNat (w64 (i + (1 : Int)))) PV.nilp))))))))] : List PV))) ≤ (70368744177664 : Nat)) then
                    ref09_rows_h2 k l sound (w64 (i + (2 : Int))) s s1 out (up ++ ([(PV.arr EK.u8 (32 : Nat) (shaSum (Vector.toList (shaSum ((Vector.toList (PV.vecv EK.u8 (32 : Nat) (List.getD l (Int.toNat i) PV.nilp))) ++ (Vector.toList (PV.vecv EK.u8 (32 : Nat) (List.getD l (Int.toNat (w64 (i + (1 : Int)))) PV.nilp))))))))] : List PV))
                  else none
                else none
              else none)
          else none)
          else (if (((List.length ((Vector.toList (PV.vecv EK.u8 (32 : Nat) (List.getD l (Int.toNat i) PV.nilp))) ++ (Vector.toList (PV.vecv EK.u8 (32 : Nat) (List.getD l (Int.toNat i) PV.nilp))))) * (1 : Nat)) ≤ (70368744177664 : Nat)) ∧ ((List.length ((Vector.toList (PV.vecv EK.u8 (32 : Nat) (List.getD l (Int.toNat i) PV.nilp))) ++ (Vector.toList (PV.vecv EK.u8 (32 : Nat) (List.getD l (Int.toNat i) PV.nilp))))) ≤ (70368744177664 : Nat)) then
            if ((List.length ((Vector.toList (PV.vecv EK.u8 (32 : Nat) (List.getD l (Int.toNat i) PV.nilp))) ++ (Vector.toList (PV.vecv EK.u8 (32 : Nat) (List.getD l (Int.toNat i) PV.nilp))))) ≤ (1099511627776 : Nat)) ∧ ((s = shaInit) ∧ (s1 = shaK)) then
              if (((List.length (up ++ ([(PV.arr EK.u8 (32 : Nat) (shaSum (Vector.toList (shaSum ((Vector.toList (PV.vecv EK.u8 (32 : Nat) (List.getD l (Int.toNat i) PV.nilp))) ++ (Vector.toList (PV.vecv EK.u8 (32 : Nat) (List.getD l (Int.toNat i) PV.nilp))))))))] : List PV))) * (32 : Nat)) ≤ (70368744177664 : Nat)) ∧ ((List.length (up ++ ([(PV.arr EK.u8 (32 : Nat) (shaSum (Vector.toList (shaSum ((Vector.toList (PV.vecv EK.u8 (32 : Nat) (List.getD l (Int.toNat i) PV.nilp))) ++ (Vector.toList (PV.vecv EK.u8 (32 : Nat) (List.getD l (Int.toNat i) PV.nilp))))))))] : List PV))) ≤ (70368744177664 : Nat)) then
                ref09_rows_h2 k l sound (w64 (i + (2 : Int))) s s1 out (up ++ ([(PV.arr EK.u8 (32 : Nat) (shaSum (Vector.toList (shaSum ((Vector.toList (PV.vecv EK.u8 (32 : Nat) (List.getD l (Int.toNat i) PV.nilp))) ++ (Vector.toList (PV.vecv EK.u8 (32 : Nat) (List.getD l (Int.toNat i) PV.nilp))))))))] : List PV))
              else none
            else none
          else none)
      else none)
      else (if (((List.length (out ++ ([(RC.sl (RC.p (32 : Nat) up))] : List PV))) * (24 : Nat)) ≤ (70368744177664 : Nat)) ∧ ((List.length (out ++ ([(RC.sl (RC.p (32 : Nat) up))] : List PV))) ≤ (70368744177664 : Nat)) then
        ref09_rows_h0 k up sound s s1 (out ++ ([(RC.sl (RC.p (32 : Nat) up))] : List PV))
      else none)
end
theorem ref09_rows_h0_q (k : Nat) (l : List PV) (sound : Bool) (s : Vector UInt32 8) (s1 : Vector UInt32 64) (out : List PV) : ref09_rows_h0 (k + 1) l sound s s1 out =
  (bif decide ((1 : Int) < (((List.length l) : Nat) : Int)) then (ref09_rows_h2 k l sound (0 : Int) s s1 out ([] : List PV))
      else (some (sound, out))) := by kernel_rfl
theorem ref09_rows_h2_q (k : Nat) (l : List PV) (sound : Bool) (i : Int) (s : Vector UInt32 8) (s1 : Vector UInt32 64) (out : List PV) (up : List PV) : ref09_rows_h2 (k + 1) l sound i s s1 out up =
  (bif decide (i < (((List.length l) : Nat) : Int)) then (if (((0 : Int) ≤ i) ∧ (i < (((List.length l) : Nat) : Int))) ∧ ((TY.chk (TY.arr EK.u8 (32 : Nat)) (List.getD l (Int.toNat i) PV.nilp)) = true) then
        bif decide ((w64 (i + (1 : Int))) < (((List.length l) : Nat) : Int)) then (if (((0 : Int) ≤ (w64 (i + (1 : Int)))) ∧ ((w64 (i + (1 : Int))) < (((List.length l) : Nat) : Int))) ∧ ((TY.chk (TY.arr EK.u8 (32 : Nat)) (List.getD l (Int.toNat (w64 (i + (1 : Int)))) PV.nilp)) = true) then
            bif decide ((Vector.toList (PV.vecv EK.u8 (32 : Nat) (List.getD l (Int.toNat i) PV.nilp))) = (Vector.toList (PV.vecv EK.u8 (32 : Nat) (List.getD l (Int.toNat (w64 (i + (1 : Int)))) PV.nilp)))) then (if (((List.length ((Vector.toList (PV.vecv EK.u8 (32 : Nat) (List.getD l (Int.toNat i) PV.nilp))) ++ (Vector.toList (PV.vecv EK.u8 (32 : Nat) (List.getD l (Int.toNat (w64 (i + (1 : Int)))) PV.nilp))))) * (1 : Nat)) ≤ (70368744177664 : Nat)) ∧ ((List.length ((Vector.toList (PV.vecv EK.u8 (32 : Nat) (List.getD l (Int.toNat i) PV.nilp))) ++ (Vector.toList (PV.vecv EK.u8 (32 : Nat) (List.getD l (Int.toNat (w64 (i + (1 : Int)))) PV.nilp))))) ≤ (70368744177664 : Nat)) then
                if ((List.length ((Vector.toList (PV.vecv EK.u8 (32 : Nat) (List.getD l (Int.toNat i) PV.nilp))) ++ (Vector.toList (PV.vecv EK.u8 (32 : Nat) (List.getD l (Int.toNat (w64 (i + (1 : Int)))) PV.nilp))))) ≤ (1099511627776 : Nat)) ∧ ((s = shaInit) ∧ (s1 = shaK)) then
                  if (((List.length (up ++ ([(PV.arr EK.u8 (32 : Nat) (shaSum (Vector.toList (shaSum ((Vector.toList (PV.vecv EK.u8 (32 : Nat) (List.getD l (Int.toNat i) PV.nilp))) ++ (Vector.toList (PV.vecv EK.u8 (32 : Nat) (List.getD l (Int.toNat (w64 (i + (1 : Int)))) PV.nilp))))))))] : List PV))) * (32 : Nat)) ≤ (70368744177664 : Nat)) ∧ ((List.length (up ++ ([(PV.arr EK.u8 (32 : Nat) (shaSum (Vector.toList (shaSum ((Vector.toList (PV.vecv EK.u8 (32 : Nat) (List.getD l (Int.toNat i) PV.nilp))) ++ (Vector.toList (PV.vecv EK.u8 (32 : Nat) (List.getD l (Int.toNat (w64 (i + (1 : Int)))) PV.nilp))))))))] : List PV))) ≤ (70368744177664 : Nat)) then
                    ref09_rows_h2 k l false (w64 (i + (2 : Int))) s s1 out (up ++ ([(PV.arr EK.u8 (32 : Nat) (shaSum (Vector.toList (shaSum ((Vector.toList (PV.vecv EK.u8 (32 : Nat) (List.getD l (Int.toNat i) PV.nilp))) ++ (Vector.toList (PV.vecv EK.u8 (32 : Nat) (List.getD l (Int.toNat (w64 (i + (1 : Int)))) PV.nilp))))))))] : List PV))
                  else none
                else none
              else none)
              else (if (((List.length ((Vector.toList (PV.vecv EK.u8 (32 : Nat) (List.getD l (Int.toNat i) PV.nilp))) ++ (Vector.toList (PV.vecv EK.u8 (32 : Nat) (List.getD l (Int.toNat (w64 (i + (1 : Int)))) PV.nilp))))) * (1 : Nat)) ≤ (70368744177664 : Nat)) ∧ ((List.length ((Vector.toList (PV.vecv EK.u8 (32 : Nat) (List.getD l (Int.toNat i) PV.nilp))) ++ (Vector.toList (PV.vecv EK.u8 (32 : Nat) (List.getD l (Int.toNat (w64 (i + (1 : Int)))) PV.nilp))))) ≤ (70368744177664 : Nat)) then
                if ((List.length ((Vector.toList (PV.vecv EK.u8 (32 : Nat) (List.getD l (Int.toNat i) PV.nilp))) ++ (Vector.toList (PV.vecv EK.u8 (32 : Nat) (List.getD l (Int.toNat (w64 (i + (1 : Int)))) PV.nilp))))) ≤ (1099511627776 : Nat)) ∧ ((s = shaInit) ∧ (s1 = shaK)) then
                  if (((List.length (up ++ ([(PV.arr EK.u8 (32 : Nat) (shaSum (Vector.toList (shaSum ((Vector.toList (PV.vecv EK.u8 (32 : Nat) (List.getD l (Int.toNat i) PV.nilp))) ++ (Vector.toList (PV.vecv EK.u8 (32 : Nat) (List.getD l (Int.toNat (w64 (i + (1 : Int)))) PV.nilp))))))))] : List PV))) * (32 : Nat)) ≤ (70368744177664 : Nat)) ∧ ((List.length (up ++ ([(PV.arr EK.u8 (32 : Nat) (shaSum (Vector.toList (shaSum ((Vector.toList (PV.vecv EK.u8 (32 : Nat) (List.getD l (Int.toNat i) PV.nilp))) ++ (Vector.toList (PV.vecv EK.u8 (32 : Nat) (List.getD l (Int.toNat (w64 (i + (1 : Int)))) PV.nilp))))))))] : List PV))) ≤ (70368744177664 : Nat)) then
                    ref09_rows_h2 k l sound (w64 (i + (2 : Int))) s s1 out (up ++ ([(PV.arr EK.u8 (32 : Nat) (shaSum (Vector.toList (shaSum ((Vector.toList (PV.vecv EK.u8 (32 : Nat) (List.getD l (Int.toNat i) PV.nilp))) ++ (Vector.toList (PV.vecv EK.u8 (32 : Nat) (List.getD l (Int.toNat (w64 (i + (1 : Int)))) PV.nilp))))))))] : List PV))
                  else none
                else none
              else none)
          else none)
          else (if (((List.length ((Vector.toList (PV.vecv EK.u8 (32 : Nat) (List.getD l (Int.toNat i) PV.nilp))) ++ (Vector.toList (PV.vecv EK.u8 (32 : Nat) (List.getD l (Int.toNat i) PV.nilp))))) * (1 : Nat)) ≤ (70368744177664 : Nat)) ∧ ((List.length ((Vector.toList (PV.vecv EK.u8 (32 : Nat) (List.getD l (Int.toNat i) PV.nilp))) ++ (Vector.toList (PV.vecv EK.u8 (32 : Nat) (List.getD l (Int.toNat i) PV.nilp))))) ≤ (70368744177664 : Nat)) then
            if ((List.length ((Vector.toList (PV.vecv EK.u8 (32 : Nat) (List.getD l (Int.toNat i) PV.nilp))) ++ (Vector.toList (PV.vecv EK.u8 (32 : Nat) (List.getD l (Int.toNat i) PV.nilp))))) ≤ (1099511627776 : Nat)) ∧ ((s = shaInit) ∧ (s1 = shaK)) then
              if (((List.length (up ++ ([(PV.arr EK.u8 (32 : Nat) (shaSum (Vector.toList (shaSum ((Vector.toList (PV.vecv EK.u8 (32 : Nat) (List.getD l (Int.toNat i) PV.nilp))) ++ (Vector.toList (PV.vecv EK.u8 (32 : Nat) (List.getD l (Int.toNat i) PV.nilp))))))))] : List PV))) * (32 : Nat)) ≤ (70368744177664 : Nat)) ∧ ((List.length (up ++ ([(PV.arr EK.u8 (32 : Nat) (shaSum (Vector.toList (shaSum ((Vector.toList (PV.vecv EK.u8 (32 : Nat) (List.getD l (Int.toNat i) PV.nilp))) ++ (Vector.toList (PV.vecv EK.u8 (32 : Nat) (List.getD l (Int.toNat i) PV.nilp))))))))] : List PV))) ≤ (70368744177664 : Nat)) then
                ref09_rows_h2 k l sound (w64 (i + (2 : Int))) s s1 out (up ++ ([(PV.arr EK.u8 (32 : Nat) (shaSum (Vector.toList (shaSum ((Vector.toList (PV.vecv EK.u8 (32 : Nat) (List.getD l (Int.toNat i) PV.nilp))) ++ (Vector.toList (PV.vecv EK.u8 (32 : Nat) (List.getD l (Int.toNat i) PV.nilp))))))))] : List PV))
              else none
            else none
          else none)
      else none)
      else (if (((List.length (out ++ ([(RC.sl (RC.p (32 : Nat) up))] : List PV))) * (24 : Nat)) ≤ (70368744177664 : Nat)) ∧ ((List.length (out ++ ([(RC.sl (RC.p (32 : Nat) up))] : List PV))) ≤ (70368744177664 : Nat)) then
        ref09_rows_h0 k up sound s s1 (out ++ ([(RC.sl (RC.p (32 : Nat) up))] : List PV))
      else none)) := by kernel_rfl
/-- moneyer/moneyerref09.rows -/
def ref09_rows (k : Nat) (l : List PV) : Option (Bool × List PV) :=
  ref09_rows_h0 k l (decide ((0 : Int) < (((List.length l) : Nat) : Int))) shaInit shaK ([(PV.sp (32 : Nat) l)] : List PV)
theorem ref09_rows_q (k : Nat) (l : List PV) : ref09_rows k l = (ref09_rows_h0 k l (decide ((0 : Int) < (((List.length l) : Nat) : Int))) shaInit shaK ([(PV.sp (32 : Nat) l)] : List PV)) := by kernel_rfl
theorem ref09_rows_round (k : Nat) (l : List PV) (hp : hashesB l = true) (sound : Bool) (i m : Nat) (hi : i < l.length) (hm : m = if i + 1 < l.length then i + 1 else i) (out : List PV) (up : List (Vector UInt8 32)) (hup : up.length ≤ i) :
    ref09_rows_h2 (k + 1) l sound (i : Int) shaInit shaK out (hArrs up) = ref09_rows_h2 k l (sound && (decide (m = i) || !decide (hOf (l.getD i .nilp) = hOf (l.getD m .nilp)))) ((i : Int) + 2) shaInit shaK out (hArrs (up ++ [bothV (hOf (l.getD i .nilp)) (hOf (l.getD m .nilp))])) := by
  have hlen := hashesB_len hp
  have hml : m < l.length := by split at hm <;> omega
  have c1 := hashesB_at hp hi
  have c2 := hashesB_at hp hml
  have k1 : (((0 : Int) ≤ i) ∧ ((i : Int) < ((l.length : Nat) : Int))) ∧ TY.chk (.arr .u8 32) (List.getD l (Int.toNat (i : Int)) .nilp) = true := ⟨⟨by omega, by omega⟩, c1⟩
  have w2 : w64 ((i : Int) + 2) = (i : Int) + 2 := w64_id (by omega) (by omega)
  have w1 : w64 ((i : Int) + 1) = (i : Int) + 1 := w64_id (by omega) (by omega)
  have hap : hArrs (up ++ [bothV (hOf (l.getD i .nilp)) (hOf (l.getD m .nilp))]) = hArrs up ++ [PV.arr EK.u8 32 (shaSum (Vector.toList (shaSum (Vector.toList (hOf (l.getD i .nilp)) ++ Vector.toList (hOf (l.getD m .nilp))))))] := by
    rw [← bothV_eq]; exact hArrs_app _ _
  have hul := hArrs_len up
  rw [hap]
  rw [ref09_rows_h2, bif_pos (by omega), if_pos k1, w2, w1]
  by_cases h2 : i + 1 < l.length
  · rw [if_pos h2] at hm
    subst hm
    have e1 : Int.toNat ((i : Int) + 1) = i + 1 := by omega
    rw [bif_pos (by omega), if_pos ⟨⟨by omega, by omega⟩, by rw [e1]; exact c2⟩, e1]
    by_cases e2 : Vector.toList (PV.vecv .u8 32 (List.getD l (Int.toNat (i : Int)) .nilp)) = Vector.toList (PV.vecv .u8 32 (List.getD l (i + 1) .nilp))
    · have e3 : hOf (l.getD i .nilp) = hOf (l.getD (i + 1) .nilp) := Vector.toList_inj.1 e2
      rw [decide_eq_true e2, decide_eq_true e3, cond_true, if_pos (by simp), if_pos ⟨by simp, rfl, rfl⟩, if_pos (by rw [List.length_append, hul]; simp only [List.length_cons, List.length_nil]; omega), decide_eq_false (show ¬ (i + 1 = i) by omega), Bool.not_true, Bool.or_false, Bool.and_false]
      rfl
    · have e3 : ¬ (hOf (l.getD i .nilp) = hOf (l.getD (i + 1) .nilp)) := fun h => e2 (congrArg Vector.toList h)
      rw [decide_eq_false e2, decide_eq_false e3, cond_false, if_pos (by simp), if_pos ⟨by simp, rfl, rfl⟩, if_pos (by rw [List.length_append, hul]; simp only [List.length_cons, List.length_nil]; omega), Bool.not_false, Bool.or_true, Bool.and_true]
      rfl
  · rw [if_neg h2] at hm
    subst hm
    rw [bif_neg (by omega), if_pos (by simp), if_pos ⟨by simp, rfl, rfl⟩, if_pos (by rw [List.length_append, hul]; simp only [List.length_cons, List.length_nil]; omega), decide_eq_true rfl, Bool.true_or, Bool.and_true]
    rfl
theorem ref09_rows_row {r : Bool × List PV} (l : List PV) (hp : hashesB l = true) (out : List PV) (ho : out.length ≤ 1099511627776) : ∀ (m i : Nat) (sound : Bool) (up : List (Vector UInt8 32)), l.length ≤ i + m → up.length ≤ i →
    Ev (fun k => ref09_rows_h0 k (hArrs (up ++ aboveH ((hOfs l).drop i))) (sound && soundH ((hOfs l).drop i)) shaInit shaK (out ++ [hSp (up ++ aboveH ((hOfs l).drop i))])) r →
    Ev (fun k => ref09_rows_h2 k l sound (i : Int) shaInit shaK out (hArrs up)) r
  | m, i, sound, up, hm, hup, h => by
    by_cases h0 : l.length ≤ i
    · rw [hdrop0 l i h0, aboveH_nil, soundH_nil, List.append_nil, Bool.and_true] at h
      refine Ev.step (fun k => ?_) h
      rw [ref09_rows_h2, bif_neg (by omega), if_pos (by rw [List.length_append]; simp only [List.length_cons, List.length_nil]; omega)]
      rfl
    · cases m with
      | zero => omega
      | succ m =>
        have e2 : ((i + 2 : Nat) : Int) = (i : Int) + 2 := by omega
        by_cases h2 : i + 1 < l.length
        · rw [hdrop2 l i h2, aboveH_two, soundH_two] at h
          have := ref09_rows_row (r := r) l hp out ho m (i + 2) (sound && !decide (hOf (l.getD i .nilp) = hOf (l.getD (i + 1) .nilp))) (up ++ [bothV (hOf (l.getD i .nilp)) (hOf (l.getD (i + 1) .nilp))]) (by omega) (by simp; omega)
            (by rw [Bool.and_assoc, List.append_assoc]; exact h)
          rw [e2] at this
          exact Ev.step (fun k => (ref09_rows_round k l hp sound i (i + 1) (by omega) (by rw [if_pos h2]) out up hup).trans (by rw [decide_eq_false (show ¬ (i + 1 = i) by omega), Bool.false_or])) this
        · have h1 : i + 1 = l.length := by omega
          rw [hdrop1 l i h1, aboveH_one, soundH_one, Bool.and_true] at h
          have := ref09_rows_row (r := r) l hp out ho m (i + 2) sound (up ++ [bothV (hOf (l.getD i .nilp)) (hOf (l.getD i .nilp))]) (by omega) (by simp; omega)
            (by rw [hdrop0 l (i + 2) (by omega), aboveH_nil, soundH_nil, List.append_nil, Bool.and_true]; exact h)
          rw [e2] at this
          exact Ev.step (fun k => (ref09_rows_round k l hp sound i i (by omega) (by rw [if_neg h2]) out up hup).trans (by rw [decide_eq_true rfl, Bool.true_or, Bool.and_true])) this
theorem ref09_rows_gen : ∀ (m : Nat) (x : List (Vector UInt8 32)) (sound : Bool) (out : List PV), x.length ≤ m → x.length + out.length ≤ 1099511627776 →
    Ev (fun k => ref09_rows_h0 k (hArrs x) sound shaInit shaK (out ++ [hSp x])) (sound && allSoundH x, out ++ (rowsL x).map hSp)
  | m, x, sound, out, h, hb => by
    have hl := hArrs_len x
    by_cases hgo : 1 < x.length
    · cases m with
      | zero => omega
      | succ m =>
        have ha := aboveH_len x
        have hB := hashesB_arrs (l := x) (by omega)
        have ih := ref09_rows_gen m (aboveH x) (sound && soundH x) (out ++ [hSp x]) (by omega) (by rw [List.length_append, ha]; simp only [List.length_cons, List.length_nil]; omega)
        have := ref09_rows_row (hArrs x) hB (out ++ [hSp x]) (by rw [List.length_append]; simp only [List.length_cons, List.length_nil]; omega) x.length 0 sound [] (by omega) (by simp) (by
          rw [hOfs_arrs, List.drop_zero, List.nil_append]; exact ih)
        rw [rowsL_go hgo, allSoundH_go hgo, List.map_cons, ← Bool.and_assoc]
        rw [List.append_assoc, List.singleton_append] at this
        refine Ev.step (fun k => ?_) this
        rw [ref09_rows_h0, bif_pos (by omega)]
        rfl
    · refine Ev.done fun k => ?_
      rw [ref09_rows_h0, bif_neg (by omega), rowsL_end hgo, allSoundH_end hgo, Bool.and_true]
      rfl
theorem ref09_rows_spec (l : List PV) (hp : hashesB l = true) (h2 : l.length ≤ 1099511627700) : Ev (fun k => ref09_rows k l) (rowsB (hOfs l), rowsPV (hOfs l)) := by
  have hl := hOfs_len l
  have := ref09_rows_gen (hOfs l).length (hOfs l) (decide (0 < (hOfs l).length)) [] (Nat.le_refl _) (by simp; omega)
  rw [List.nil_append, List.nil_append] at this
  refine Ev.same (fun k => ?_) this
  rw [ref09_rows, hArrs_ofs hp]
  have e : decide ((0 : Int) < (((List.length l) : Nat) : Int)) = decide (0 < (hOfs l).length) := by
    rw [decide_eq_decide]; omega
  rw [e]
  unfold hSp
  rw [hArrs_ofs hp]

end
end Go.Proofs.YtbdajagcinfeeaaDoor.M

namespace Go.Proofs.YtbdajagcinfeeaaDoor.M
open Go
noncomputable section
/-- the loop 0 of moneyer/moneyerref09.Way -/
def ref09_Way_h0 : Nat → Int → Int → (List PV) → (List PV) → Option (Int × List PV)
  | 0, _, _, _, _ => none
  | k + 1, n, k_, r_, out => bif decide ((w64 (k_ + (1 : Int))) < (((List.length r_) : Nat) : Int)) then (if ((0 : Int) ≤ k_) ∧ (k_ < (((List.length r_) : Nat) : Int)) then
        if (TY.chk (TY.sp (32 : Nat)) (RC.get (RC.p (1 : Nat) r_) ([(PE.i (Int.toNat k_))] : List PE))) = true then
          bif decide ((((List.length (PV.els (RC.get (RC.p (1 : Nat) r_) ([(PE.i (Int.toNat k_))] : List PE)))) : Nat) : Int) ≤ (ixor n (1 : Int))) then (if (((0 : Int) ≤ n) ∧ (n < (((List.length (PV.els (RC.get (RC.p (1 : Nat) r_) ([(PE.i (Int.toNat k_))] : List PE)))) : Nat) : Int))) ∧ ((TY.chk (TY.arr EK.u8 (32 : Nat)) (List.getD (PV.els (RC.get (RC.p (1 : Nat) r_) ([(PE.i (Int.toNat k_))] : List PE))) (Int.toNat n) PV.nilp)) = true) then
              if (((List.length (out ++ ([(TY.eta (TY.arr EK.u8 (32 : Nat)) (List.getD (PV.els (RC.get (RC.p (1 : Nat) r_) ([(PE.i (Int.toNat k_))] : List PE))) (Int.toNat n) PV.nilp))] : List PV))) * (32 : Nat)) ≤ (70368744177664 : Nat)) ∧ ((List.length (out ++ ([(TY.eta (TY.arr EK.u8 (32 : Nat)) (List.getD (PV.els (RC.get (RC.p (1 : Nat) r_) ([(PE.i (Int.toNat k_))] : List PE))) (Int.toNat n) PV.nilp))] : List PV))) ≤ (70368744177664 : Nat)) then
                ref09_Way_h0 k (w64 (Int.tdiv n (2 : Int))) (w64 (k_ + (1 : Int))) r_ (out ++ ([(TY.eta (TY.arr EK.u8 (32 : Nat)) (List.getD (PV.els (RC.get (RC.p (1 : Nat) r_) ([(PE.i (Int.toNat k_))] : List PE))) (Int.toNat n) PV.nilp))] : List PV))
              else none
            else none)
            else (if (((0 : Int) ≤ (ixor n (1 : Int))) ∧ ((ixor n (1 : Int)) < (((List.length (PV.els (RC.get (RC.p (1 : Nat) r_) ([(PE.i (Int.toNat k_))] : List PE)))) : Nat) : Int))) ∧ ((TY.chk (TY.arr EK.u8 (32 : Nat)) (List.getD (PV.els (RC.get (RC.p (1 : Nat) r_) ([(PE.i (Int.toNat k_))] : List PE))) (Int.toNat (ixor n (1 : Int))) PV.nilp)) = true) then
              if (((List.length (out ++ ([(TY.eta (TY.arr EK.u8 (32 : Nat)) (List.getD (PV.els (RC.get (RC.p (1 : Nat) r_) ([(PE.i (Int.toNat k_))] : List PE))) (Int.toNat (ixor n (1 : Int))) PV.nilp))] : List PV))) * (32 : Nat)) ≤ (70368744177664 : Nat)) ∧ ((List.length (out ++ ([(TY.eta (TY.arr EK.u8 (32 : Nat)) (List.getD (PV.els (RC.get (RC.p (1 : Nat) r_) ([(PE.i (Int.toNat k_))] : List PE))) (Int.toNat (ixor n (1 : Int))) PV.nilp))] : List PV))) ≤ (70368744177664 : Nat)) then
                ref09_Way_h0 k (w64 (Int.tdiv n (2 : Int))) (w64 (k_ + (1 : Int))) r_ (out ++ ([(TY.eta (TY.arr EK.u8 (32 : Nat)) (List.getD (PV.els (RC.get (RC.p (1 : Nat) r_) ([(PE.i (Int.toNat k_))] : List PE))) (Int.toNat (ixor n (1 : Int))) PV.nilp))] : List PV))
              else none
            else none)
        else none
      else none)
      else (if (PV.flats out) = true then
        some ((0 : Int), out)
      else none)
theorem ref09_Way_h0_q (k : Nat) (n : Int) (k_ : Int) (r_ : List PV) (out : List PV) : ref09_Way_h0 (k + 1) n k_ r_ out =
  (bif decide ((w64 (k_ + (1 : Int))) < (((List.length r_) : Nat) : Int)) then (if ((0 : Int) ≤ k_) ∧ (k_ < (((List.length r_) : Nat) : Int)) then
        if (TY.chk (TY.sp (32 : Nat)) (RC.get (RC.p (1 : Nat) r_) ([(PE.i (Int.toNat k_))] : List PE))) = true then
          bif decide ((((List.length (PV.els (RC.get (RC.p (1 : Nat) r_) ([(PE.i (Int.toNat k_))] : List PE)))) : Nat) : Int) ≤ (ixor n (1 : Int))) then (if (((0 : Int) ≤ n) ∧ (n < (((List.length (PV.els (RC.get (RC.p (1 : Nat) r_) ([(PE.i (Int.toNat k_))] : List PE)))) : Nat) : Int))) ∧ ((TY.chk (TY.arr EK.u8 (32 : Nat)) (List.getD (PV.els (RC.get (RC.p (1 : Nat) r_) ([(PE.i (Int.toNat k_))] : List PE))) (Int.toNat n) PV.nilp)) = true) then
              if (((List.length (out ++ ([(TY.eta (TY.arr EK.u8 (32 : Nat)) (List.getD (PV.els (RC.get (RC.p (1 : Nat) r_) ([(PE.i (Int.toNat k_))] : List PE))) (Int.toNat n) PV.nilp))] : List PV))) * (32 : Nat)) ≤ (70368744177664 : Nat)) ∧ ((List.length (out ++ ([(TY.eta (TY.arr EK.u8 (32 : Nat)) (List.getD (PV.els (RC.get (RC.p (1 : Nat) r_) ([(PE.i (Int.toNat k_))] : List PE))) (Int.toNat n) PV.nilp))] : List PV))) ≤ (70368744177664 : Nat)) then
                ref09_Way_h0 k (w64 (Int.tdiv n (2 : Int))) (w64 (k_ + (1 : Int))) r_ (out ++ ([(TY.eta (TY.arr EK.u8 (32 : Nat)) (List.getD (PV.els (RC.get (RC.p (1 : Nat) r_) ([(PE.i (Int.toNat k_))] : List PE))) (Int.toNat n) PV.nilp))] : List PV))
              else none
            else none)
            else (if (((0 : Int) ≤ (ixor n (1 : Int))) ∧ ((ixor n (1 : Int)) < (((List.length (PV.els (RC.get (RC.p (1 : Nat) r_) ([(PE.i (Int.toNat k_))] : List PE)))) : Nat) : Int))) ∧ ((TY.chk (TY.arr EK.u8 (32 : Nat)) (List.getD (PV.els (RC.get (RC.p (1 : Nat) r_) ([(PE.i (Int.toNat k_))] : List PE))) (Int.toNat (ixor n (1 : Int))) PV.nilp)) = true) then
              if (((List.length (out ++ ([(TY.eta (TY.arr EK.u8 (32 : Nat)) (List.getD (PV.els (RC.get (RC.p (1 : Nat) r_) ([(PE.i (Int.toNat k_))] : List PE))) (Int.toNat (ixor n (1 : Int))) PV.nilp))] : List PV))) * (32 : Nat)) ≤ (70368744177664 : Nat)) ∧ ((List.length (out ++ ([(TY.eta (TY.arr EK.u8 (32 : Nat)) (List.getD (PV.els (RC.get (RC.p (1 : Nat) r_) ([(PE.i (Int.toNat k_))] : List PE))) (Int.toNat (ixor n (1 : Int))) PV.nilp))] : List PV))) ≤ (70368744177664 : Nat)) then
                ref09_Way_h0 k (w64 (Int.tdiv n (2 : Int))) (w64 (k_ + (1 : Int))) r_ (out ++ ([(TY.eta (TY.arr EK.u8 (32 : Nat)) (List.getD (PV.els (RC.get (RC.p (1 : Nat) r_) ([(PE.i (Int.toNat k_))] : List PE))) (Int.toNat (ixor n (1 : Int))) PV.nilp))] : List PV))
              else none
            else none)
        else none
      else none)
      else (if (PV.flats out) = true then
        some ((0 : Int), out)
      else none)) := by kernel_rfl
/-- moneyer/moneyerref09.Way -/
def ref09_Way (k : Nat) (l : List PV) (n : Int) : Option (Int × List PV) :=
  bif eqb (decide (n < (0 : Int))) false then (bif bif false then true else (decide ((((List.length l) : Nat) : Int) ≤ n)) then (some ((2 : Int), ([] : List PV)))
      else (if ((hashesB l) = true) ∧ ((List.length l) ≤ (1099511627700 : Nat)) then
        ref09_Way_h0 k n (0 : Int) (rowsPV (hOfs l)) ([] : List PV)
      else none))
    else (some ((2 : Int), ([] : List PV)))
theorem ref09_Way_q (k : Nat) (l : List PV) (n : Int) : ref09_Way k l n = (bif eqb (decide (n < (0 : Int))) false then (bif bif false then true else (decide ((((List.length l) : Nat) : Int) ≤ n)) then (some ((2 : Int), ([] : List PV)))
      else (if ((hashesB l) = true) ∧ ((List.length l) ≤ (1099511627700 : Nat)) then
        ref09_Way_h0 k n (0 : Int) (rowsPV (hOfs l)) ([] : List PV)
      else none))
    else (some ((2 : Int), ([] : List PV)))) := by kernel_rfl
theorem ref09_Way_gen : ∀ (m : Nat) (pre : List PV) (y w : List (Vector UInt8 32)) (n : Nat), y.length ≤ m → n < y.length → w.length + y.length ≤ 1099511627776 → pre.length + y.length ≤ 1099511627776 →
    Ev (fun k => ref09_Way_h0 k (n : Int) (pre.length : Int) (pre ++ (rowsL y).map hSp) (hArrs w)) ((0 : Int), hArrs (w ++ wayGo y n))
  | 0, pre, y, w, n, h, hn, hb, hc => by omega
  | m + 1, pre, y, w, n, h, hn, hb, hc => by
    have hl := hArrs_len y
    have hw := hArrs_len w
    have w1 : w64 ((pre.length : Int) + 1) = (pre.length : Int) + 1 := w64_id (by omega) (by omega)
    by_cases hgo : 1 < y.length
    · have ha := aboveH_len y
      have hx := xor1 n
      have hxi := ixor_nat n (by omega)
      have this := ref09_Way_gen m (pre ++ [hSp y]) (aboveH y) (w ++ [y.getD (nbr n y.length) hZero]) (n / 2) (by omega) (by omega) (by rw [List.length_append, ha]; simp; omega) (by rw [List.length_append, ha]; simp; omega)
      rw [List.append_assoc w, List.singleton_append, ← wayGo_go hgo, List.append_assoc pre, List.singleton_append, ← List.map_cons, ← rowsL_go hgo] at this
      have e3 : ((((pre ++ [hSp y]).length : Nat)) : Int) = (pre.length : Int) + 1 := by simp
      rw [e3] at this
      have hlen : ((pre ++ (rowsL y).map hSp).length : Int) = pre.length + 1 + (rowsL (aboveH y)).length := by
        rw [rowsL_go hgo]; simp; omega
      have hpos := rowsL_pos (aboveH y)
      have hg : List.getD (pre ++ (rowsL y).map hSp) pre.length .nilp = hSp y := by rw [rowsL_go hgo]; simp [List.getD]
      have hh : w64 (Int.tdiv (n : Int) 2) = ((n / 2 : Nat) : Int) := by rw [half_int, w64_id (by omega) (by omega)]
      have hap : ∀ z : Vector UInt8 32, hArrs (w ++ [z]) = hArrs w ++ [hArr z] := fun z => hArrs_app w [z]
      rw [hap] at this
      refine Ev.step (fun k => ?_) this
      have e4 : PV.els (hSp y) = hArrs y := rfl
      rw [ref09_Way_h0, w1, bif_pos (by omega), getP, show Int.toNat (pre.length : Int) = pre.length from rfl, hg, if_pos ⟨by omega, by omega⟩, if_pos (by rfl), hxi, hh, e4]
      by_cases c : n ^^^ 1 < y.length
      · have e : nbr n y.length = n ^^^ 1 := by unfold nbr; rw [if_pos c]
        rw [bif_neg (by omega), if_pos ⟨⟨by omega, by omega⟩, hArrs_chk y (i := n ^^^ 1) c⟩, if_pos (by rw [List.length_append, hw]; simp only [List.length_cons, List.length_nil]; omega), e]
        have : TY.eta (.arr .u8 32) (List.getD (hArrs y) (Int.toNat ((n ^^^ 1 : Nat) : Int)) .nilp) = hArr (y.getD (n ^^^ 1) hZero) := by
          show TY.eta (.arr .u8 32) (List.getD (hArrs y) (n ^^^ 1) .nilp) = _
          rw [hArrs_get y c]; rfl
        rw [this]
      · have e : nbr n y.length = n := by unfold nbr; rw [if_neg c]
        rw [bif_pos (by omega), if_pos ⟨⟨by omega, by omega⟩, hArrs_chk y (i := n) hn⟩, if_pos (by rw [List.length_append, hw]; simp only [List.length_cons, List.length_nil]; omega), e]
        have : TY.eta (.arr .u8 32) (List.getD (hArrs y) (Int.toNat ((n : Nat) : Int)) .nilp) = hArr (y.getD n hZero) := by
          show TY.eta (.arr .u8 32) (List.getD (hArrs y) n .nilp) = _
          rw [hArrs_get y hn]; rfl
        rw [this]
    · refine Ev.done fun k => ?_
      rw [ref09_Way_h0, w1, bif_neg (by rw [rowsL_end hgo]; simp), wayGo_end hgo, List.append_nil, if_pos (hArrs_flats w)]
theorem ref09_Way_spec (l : List PV) (n : Int) (hp : hashesB l = true ∧ l.length ≤ 1099511627700) : Ev (fun k => ref09_Way k l n) (wayE (hOfs l) n, wayL (hOfs l) n) := by
  have hl := hOfs_len l
  rw [wayE_eq, wayL_eq]
  by_cases h0 : 0 ≤ n
  · by_cases h1 : n < (hOfs l).length
    · have := ref09_Way_gen (hOfs l).length [] (hOfs l) [] n.toNat (Nat.le_refl _) (by omega) (by simp; omega) (by simp; omega)
      rw [List.nil_append, List.nil_append, show ((n.toNat : Nat) : Int) = n by omega] at this
      rw [if_pos ⟨h0, h1⟩, if_pos ⟨h0, h1⟩]
      refine Ev.same (fun k => ?_) this
      rw [ref09_Way, decide_eq_false (p := n < 0) (by omega), decide_eq_false (p := (((List.length l) : Nat) : Int) ≤ n) (by omega), if_pos hp]
      rfl
    · rw [if_neg (by omega), if_neg (by omega)]
      refine Ev.done fun k => ?_
      rw [ref09_Way, decide_eq_false (p := n < 0) (by omega), decide_eq_true (p := (((List.length l) : Nat) : Int) ≤ n) (by omega)]
      rfl
  · rw [if_neg (by omega), if_neg (by omega)]
    refine Ev.done fun k => ?_
    rw [ref09_Way, decide_eq_true (p := n < 0) (by omega)]
    rfl

end
end Go.Proofs.YtbdajagcinfeeaaDoor.M

namespace Go.Proofs.YtbdajagcinfeeaaDoor.M
open Go
noncomputable section
set_option maxRecDepth 100000
set_option maxHeartbeats 0
noncomputable def ref09_rows_T : Tbl := [(40, [], ref02_New_c), (42, [], ref02_List_c), (41, [], ref02_hTwice_c)]
noncomputable def ref09_rows_C : CfgW := mkC Tryd.prog theG ref09_rows_T 64 0 true
def ref09_rows_lv : Nat → List Nat := fun i => bif Nat.beq i 2 then [0, 4, 5, 6, 7, 8] else bif Nat.beq i 0 then [0, 4, 5, 6] else bif Nat.beq i 1000003 then [999] else bif Nat.beq i 1000015 then [7] else []
noncomputable abbrev ref09_rows_b : Code := Tryd.f37.body.getD .skip
noncomputable abbrev ref09_rows_r : List ResultVar := Tryd.f37.results.toList
def ref09_rows_hs : List Nat := []

def ref09_rows_enc (r : Bool × List PV) : CallOut := ⟨.tup [.o 60000, .pv (.sc .b r.1)], [(60000, .row (.p 1 r.2) false)], false, []⟩
def ref09_rows_s0 (l : List PV) (sound : Bool) (s : Vector UInt32 8) (s1 : Vector UInt32 64) (out : List PV) : St := ⟨[(0, .pv (.sp 32 l)), (4, .p 60000 []), (5, .o 60001), (6, .pv (.sc .b sound))], [(60000, .box (.pv (.st [.arr .u32 8 s, .arr .u32 64 s1]))), (60001, .row (.p 1 out) false)]⟩
def ref09_rows_s2 (l : List PV) (sound : Bool) (i : Int) (s : Vector UInt32 8) (s1 : Vector UInt32 64) (out : List PV) (up : List PV) : St := ⟨[(0, .pv (.sp 32 l)), (4, .p 60000 []), (5, .o 60001), (6, .pv (.sc .b sound)), (7, .o 60002), (8, .pv (.sc .i i))], [(60000, .box (.pv (.st [.arr .u32 8 s, .arr .u32 64 s1]))), (60001, .row (.p 1 out) false), (60002, .row (.p 32 up) false)]⟩
theorem ref09_rows_g0 (l : List PV) (sound : Bool) (s : Vector UInt32 8) (s1 : Vector UInt32 64) (out : List PV) (Q : CallOut → Prop) : headRound ref09_rows_C ref09_rows_lv [true, true, true, true, false, false] ref09_rows_b (ref09_rows_s0 l sound s s1 out) (fnK ref09_rows_C ref09_rows_r ref09_rows_hs Q) =
    (condP (decide ((1 : Int) < (((List.length l) : Nat) : Int))) (headP ref09_rows_C ref09_rows_lv [true, true, true, true, false, false, false, true, false, true, false, true, false] ref09_rows_b (ref09_rows_s2 l sound (0 : Int) s s1 out ([] : List PV)) (fnK ref09_rows_C ref09_rows_r ref09_rows_hs Q)) (Q (ref09_rows_enc (sound, out)))) := by kernel_rfl
theorem ref09_rows_g2 (l : List PV) (sound : Bool) (i : Int) (s : Vector UInt32 8) (s1 : Vector UInt32 64) (out : List PV) (up : List PV) (Q : CallOut → Prop) : headRound ref09_rows_C ref09_rows_lv [true, true, true, true, false, false, false, true, false, true, false, true, false] ref09_rows_b (ref09_rows_s2 l sound i s s1 out up) (fnK ref09_rows_C ref09_rows_r ref09_rows_hs Q) =
    (condP (decide (i < (((List.length l) : Nat) : Int))) (((((0 : Int) ≤ i) ∧ (i < (((List.length l) : Nat) : Int))) ∧ ((TY.chk (TY.arr EK.u8 (32 : Nat)) (List.getD l (Int.toNat i) PV.nilp)) = true)) ∧ (((((0 : Int) ≤ i) ∧ (i < (((List.length l) : Nat) : Int))) ∧ ((TY.chk (TY.arr EK.u8 (32 : Nat)) (List.getD l (Int.toNat i) PV.nilp)) = true)) ∧ (condP (decide ((w64 (i + (1 : Int))) < (((List.length l) : Nat) : Int))) (((((0 : Int) ≤ (w64 (i + (1 : Int)))) ∧ ((w64 (i + (1 : Int))) < (((List.length l) : Nat) : Int))) ∧ ((TY.chk (TY.arr EK.u8 (32 : Nat)) (List.getD l (Int.toNat (w64 (i + (1 : Int)))) PV.nilp)) = true)) ∧ (condP (decide ((Vector.toList (PV.vecv EK.u8 (32 : Nat) (List.getD l (Int.toNat i) PV.nilp))) = (Vector.toList (PV.vecv EK.u8 (32 : Nat) (List.getD l (Int.toNat (w64 (i + (1 : Int)))) PV.nilp))))) (((((List.length ((Vector.toList (PV.vecv EK.u8 (32 : Nat) (List.getD l (Int.toNat i) PV.nilp))) ++ (Vector.toList (PV.vecv EK.u8 (32 : Nat) (List.getD l (Int.toNat (w64 (i + (1 : Int)))) PV.nilp))))) * (1 : Nat)) ≤ (70368744177664 : Nat)) ∧ ((List.length ((Vector.toList (PV.vecv EK.u8 (32 : Nat) (List.getD l (Int.toNat i) PV.nilp))) ++ (Vector.toList (PV.vecv EK.u8 (32 : Nat) (List.getD l (Int.toNat (w64 (i + (1 : Int)))) PV.nilp))))) ≤ (70368744177664 : Nat))) ∧ ((((List.length ((Vector.toList (PV.vecv EK.u8 (32 : Nat) (List.getD l (Int.toNat i) PV.nilp))) ++ (Vector.toList (PV.vecv EK.u8 (32 : Nat) (List.getD l (Int.toNat (w64 (i + (1 : Int)))) PV.nilp))))) ≤ (1099511627776 : Nat)) ∧ ((s = shaInit) ∧ (s1 = shaK))) ∧ (((((List.length (up ++ ([(PV.arr EK.u8 (32 : Nat) (shaSum (Vector.toList (shaSum ((Vector.toList (PV.vecv EK.u8 (32 : Nat) (List.getD l (Int.toNat i) PV.nilp))) ++ (Vector.toList (PV.vecv EK.u8 (32 : Nat) (List.getD l (Int.toNat (w64 (i + (1 : Int)))) PV.nilp))))))))] : List PV))) * (32 : Nat)) ≤ (70368744177664 : Nat)) ∧ ((List.length (up ++ ([(PV.arr EK.u8 (32 : Nat) (shaSum (Vector.toList (shaSum ((Vector.toList (PV.vecv EK.u8 (32 : Nat) (List.getD l (Int.toNat i) PV.nilp))) ++ (Vector.toList (PV.vecv EK.u8 (32 : Nat) (List.getD l (Int.toNat (w64 (i + (1 : Int)))) PV.nilp))))))))] : List PV))) ≤ (70368744177664 : Nat))) ∧ (headP ref09_rows_C ref09_rows_lv [true, true, true, true, false, false, false, true, false, true, false, true, false] ref09_rows_b (ref09_rows_s2 l false (w64 (i + (2 : Int))) s s1 out (up ++ ([(PV.arr EK.u8 (32 : Nat) (shaSum (Vector.toList (shaSum ((Vector.toList (PV.vecv EK.u8 (32 : Nat) (List.getD l (Int.toNat i) PV.nilp))) ++ (Vector.toList (PV.vecv EK.u8 (32 : Nat) (List.getD l (Int.toNat (w64 (i + (1 : Int)))) PV.nilp))))))))] : List PV))) (fnK ref09_rows_C ref09_rows_r ref09_rows_hs Q))))) (((((List.length ((Vector.toList (PV.vecv EK.u8 (32 : Nat) (List.getD l (Int.toNat i) PV.nilp))) ++ (Vector.toList (PV.vecv EK.u8 (32 : Nat) (List.getD l (Int.toNat (w64 (i + (1 : Int)))) PV.nilp))))) * (1 : Nat)) ≤ (70368744177664 : Nat)) ∧ ((List.length ((Vector.toList (PV.vecv EK.u8 (32 : Nat) (List.getD l (Int.toNat i) PV.nilp))) ++ (Vector.toList (PV.vecv EK.u8 (32 : Nat) (List.getD l (Int.toNat (w64 (i + (1 : Int)))) PV.nilp))))) ≤ (70368744177664 : Nat))) ∧ ((((List.length ((Vector.toList (PV.vecv EK.u8 (32 : Nat) (List.getD l (Int.toNat i) PV.nilp))) ++ (Vector.toList (PV.vecv EK.u8 (32 : Nat) (List.getD l (Int.toNat (w64 (i + (1 : Int)))) PV.nilp))))) ≤ (1099511627776 : Nat)) ∧ ((s = shaInit) ∧ (s1 = shaK))) ∧ (((((List.length (up ++ ([(PV.arr EK.u8 (32 : Nat) (shaSum (Vector.toList (shaSum ((Vector.toList (PV.vecv EK.u8 (32 : Nat) (List.getD l (Int.toNat i) PV.nilp))) ++ (Vector.toList (PV.vecv EK.u8 (32 : Nat) (List.getD l (Int.toNat (w64 (i + (1 : Int)))) PV.nilp))))))))] : List PV))) * (32 : Nat)) ≤ (70368744177664 : Nat)) ∧ ((List.length (up ++ ([(PV.arr EK.u8 (32 : Nat) (shaSum (Vector.toList (shaSum ((Vector.toList (PV.vecv EK.u8 (32 : Nat) (List.getD l (Int.toNat i) PV.nilp))) ++ (Vector.toList (PV.vecv EK.u8 (32 : Nat) (List.getD l (Int.toNat (w64 (i + (1 : Int)))) PV.nilp))))))))] : List PV))) ≤ (70368744177664 : Nat))) ∧ (headP ref09_rows_C ref09_rows_lv [true, true, true, true, false, false, false, true, false, true, false, true, false] ref09_rows_b (ref09_rows_s2 l sound (w64 (i + (2 : Int))) s s1 out (up ++ ([(PV.arr EK.u8 (32 : Nat) (shaSum (Vector.toList (shaSum ((Vector.toList (PV.vecv EK.u8 (32 : Nat) (List.getD l (Int.toNat i) PV.nilp))) ++ (Vector.toList (PV.vecv EK.u8 (32 : Nat) (List.getD l (Int.toNat (w64 (i + (1 : Int)))) PV.nilp))))))))] : List PV))) (fnK ref09_rows_C ref09_rows_r ref09_rows_hs Q))))))) (((((List.length ((Vector.toList (PV.vecv EK.u8 (32 : Nat) (List.getD l (Int.toNat i) PV.nilp))) ++ (Vector.toList (PV.vecv EK.u8 (32 : Nat) (List.getD l (Int.toNat i) PV.nilp))))) * (1 : Nat)) ≤ (70368744177664 : Nat)) ∧ ((List.length ((Vector.toList (PV.vecv EK.u8 (32 : Nat) (List.getD l (Int.toNat i) PV.nilp))) ++ (Vector.toList (PV.vecv EK.u8 (32 : Nat) (List.getD l (Int.toNat i) PV.nilp))))) ≤ (70368744177664 : Nat))) ∧ ((((List.length ((Vector.toList (PV.vecv EK.u8 (32 : Nat) (List.getD l (Int.toNat i) PV.nilp))) ++ (Vector.toList (PV.vecv EK.u8 (32 : Nat) (List.getD l (Int.toNat i) PV.nilp))))) ≤ (1099511627776 : Nat)) ∧ ((s = shaInit) ∧ (s1 = shaK))) ∧ (((((List.length (up ++ ([(PV.arr EK.u8 (32 : Nat) (shaSum (Vector.toList (shaSum ((Vector.toList (PV.vecv EK.u8 (32 : Nat) (List.getD l (Int.toNat i) PV.nilp))) ++ (Vector.toList (PV.vecv EK.u8 (32 : Nat) (List.getD l (Int.toNat i) PV.nilp))))))))] : List PV))) * (32 : Nat)) ≤ (70368744177664 : Nat)) ∧ ((List.length (up ++ ([(PV.arr EK.u8 (32 : Nat) (shaSum (Vector.toList (shaSum ((Vector.toList (PV.vecv EK.u8 (32 : Nat) (List.getD l (Int.toNat i) PV.nilp))) ++ (Vector.toList (PV.vecv EK.u8 (32 : Nat) (List.getD l (Int.toNat i) PV.nilp))))))))] : List PV))) ≤ (70368744177664 : Nat))) ∧ (headP ref09_rows_C ref09_rows_lv [true, true, true, true, false, false, false, true, false, true, false, true, false] ref09_rows_b (ref09_rows_s2 l sound (w64 (i + (2 : Int))) s s1 out (up ++ ([(PV.arr EK.u8 (32 : Nat) (shaSum (Vector.toList (shaSum ((Vector.toList (PV.vecv EK.u8 (32 : Nat) (List.getD l (Int.toNat i) PV.nilp))) ++ (Vector.toList (PV.vecv EK.u8 (32 : Nat) (List.getD l (Int.toNat i) PV.nilp))))))))] : List PV))) (fnK ref09_rows_C ref09_rows_r ref09_rows_hs Q)))))))) (((((List.length (out ++ ([(RC.sl (RC.p (32 : Nat) up))] : List PV))) * (24 : Nat)) ≤ (70368744177664 : Nat)) ∧ ((List.length (out ++ ([(RC.sl (RC.p (32 : Nat) up))] : List PV))) ≤ (70368744177664 : Nat))) ∧ (headP ref09_rows_C ref09_rows_lv [true, true, true, true, false, false] ref09_rows_b (ref09_rows_s0 up sound s s1 (out ++ ([(RC.sl (RC.p (32 : Nat) up))] : List PV))) (fnK ref09_rows_C ref09_rows_r ref09_rows_hs Q)))) := by kernel_rfl
theorem ref09_rows_k0 {r : Bool × List PV} {Q : CallOut → Prop} (hQ : Q (ref09_rows_enc r)) : ∀ k : Nat, (∀ (l : List PV) (sound : Bool) (s : Vector UInt32 8) (s1 : Vector UInt32 64) (out : List PV), ref09_rows_h0 k l sound s s1 out = some r → headP ref09_rows_C ref09_rows_lv [true, true, true, true, false, false] ref09_rows_b (ref09_rows_s0 l sound s s1 out) (fnK ref09_rows_C ref09_rows_r ref09_rows_hs Q)) ∧ (∀ (l : List PV) (sound : Bool) (i : Int) (s : Vector UInt32 8) (s1 : Vector UInt32 64) (out : List PV) (up : List PV), ref09_rows_h2 k l sound i s s1 out up = some r → headP ref09_rows_C ref09_rows_lv [true, true, true, true, false, false, false, true, false, true, false, true, false] ref09_rows_b (ref09_rows_s2 l sound i s s1 out up) (fnK ref09_rows_C ref09_rows_r ref09_rows_hs Q))
  | 0 => ⟨fun _ _ _ _ _ h => no_ok h, fun _ _ _ _ _ _ _ h => no_ok h⟩
  | k + 1 => ⟨fun l sound s s1 out h => headP_step (Eq.mpr (ref09_rows_g0 l sound s s1 out Q) (have h := (ref09_rows_h0_q k l sound s s1 out).symm.trans h; cond_ok h (fun h => (ref09_rows_k0 hQ k).2 _ _ _ _ _ _ _ h) (fun h => ret_ok (Q := Q) (e := ref09_rows_enc) h hQ))),
    fun l sound i s s1 out up h => headP_step (Eq.mpr (ref09_rows_g2 l sound i s s1 out up Q) (have h := (ref09_rows_h2_q k l sound i s s1 out up).symm.trans h; cond_ok h (fun h => ite_ok h fun hc0 h => ⟨hc0, cond_ok h (fun h => ite_ok h fun hc1 h => cond_ok h (fun h => ite_ok h fun hc2 h => ite_ok h fun hc3 h => ite_ok h fun hc4 h => (ref09_rows_k0 hQ k).2 _ _ _ _ _ _ _ h) (fun h => ite_ok h fun hc2 h => ite_ok h fun hc3 h => ite_ok h fun hc4 h => (ref09_rows_k0 hQ k).2 _ _ _ _ _ _ _ h)) (fun h => ite_ok h fun hc1 h => ite_ok h fun hc2 h => ite_ok h fun hc3 h => (ref09_rows_k0 hQ k).2 _ _ _ _ _ _ _ h)⟩) (fun h => ite_ok h fun hc0 h => (ref09_rows_k0 hQ k).1 _ _ _ _ _ h)))⟩
theorem ref09_rows_e (l : List PV) (Q : CallOut → Prop) : evalFnP ref09_rows_C ref09_rows_lv ref09_rows_r ref09_rows_hs ref09_rows_b [.pv (.sp 32 l)] [] Q =
    (headP ref09_rows_C ref09_rows_lv [true, true, true, true, false, false] ref09_rows_b (ref09_rows_s0 l (decide ((0 : Int) < (((List.length l) : Nat) : Int))) shaInit shaK ([(PV.sp (32 : Nat) l)] : List PV)) (fnK ref09_rows_C ref09_rows_r ref09_rows_hs Q)) := by kernel_rfl
theorem ref09_rows_w {k : Nat} (l : List PV) {r} {Q : CallOut → Prop} (h : ref09_rows k l = some r) (hQ : Q (ref09_rows_enc r)) : evalFnP ref09_rows_C ref09_rows_lv ref09_rows_r ref09_rows_hs ref09_rows_b [.pv (.sp 32 l)] [] Q :=
  Eq.mpr (ref09_rows_e l Q) (have h := (ref09_rows_q k l).symm.trans h; (ref09_rows_k0 hQ _).1 _ _ _ _ _ h)
def ref09_rows_c : Ans
  | [.pv (.sp 32 l)], [] => some (some (hashesB l = true ∧ l.length ≤ 1099511627700), ref09_rows_enc ((rowsB (hOfs l), rowsPV (hOfs l))))
  | _, _ => none
theorem ref09_rows_tok : TblOK Tryd.prog theG ref09_rows_T := .cons ⟨by kernel_rfl, ref02_New_ok⟩ (.cons ⟨by kernel_rfl, ref02_List_ok⟩ (.cons ⟨by kernel_rfl, ref02_hTwice_ok⟩ (.nil)))
theorem ref09_rows_ok : FnOK Tryd.prog theG 37 (unW ref09_rows_c) := by
  refine FnOK.ofC (T := ref09_rows_T) (nt := 64) (np := 0) (nf := true) (hs := ref09_rows_hs) (fn := Tryd.f37) (body := ref09_rows_b) ref09_rows_tok (by kernel_rfl) (by kernel_rfl) (by kernel_rfl) (by kernel_rfl) (c := ref09_rows_c) (lv := ref09_rows_lv) ?_
  intro xs mem p out h hp
  unfold ref09_rows_c at h
  split at h
  · cases h
    obtain ⟨k, hk⟩ := ref09_rows_spec _ hp.1 hp.2
    exact ref09_rows_w _ hk rfl
  · cases h
end
end Go.Proofs.YtbdajagcinfeeaaDoor.M

namespace Go.Proofs.YtbdajagcinfeeaaDoor.M
open Go
noncomputable section
set_option maxRecDepth 100000
set_option maxHeartbeats 0
noncomputable def ref09_Way_T : Tbl := [(37, [false], ref09_rows_c)]
noncomputable def ref09_Way_C : CfgW := mkC Tryd.prog theG ref09_Way_T 54 0 false
def ref09_Way_lv : Nat → List Nat := fun i => bif Nat.beq i 0 then [1, 6, 8, 9] else []
noncomputable abbrev ref09_Way_b : Code := Tryd.f15.body.getD .skip
noncomputable abbrev ref09_Way_r : List ResultVar := Tryd.f15.results.toList
def ref09_Way_hs : List Nat := []

def ref09_Way_enc (r : Int × List PV) : CallOut := ⟨.tup [.o 60000, .pv (.sc .i r.1)], [(60000, .row (.p 32 r.2) false)], true, []⟩
def ref09_Way_s0 (n : Int) (k_ : Int) (r_ : List PV) (out : List PV) : St := ⟨[(1, .pv (.sc .i n)), (6, .o 60000), (8, .o 60001), (9, .pv (.sc .i k_))], [(60000, .row (.p 1 r_) false), (60001, .row (.p 32 out) false)]⟩
theorem ref09_Way_g0 (n : Int) (k_ : Int) (r_ : List PV) (out : List PV) (Q : CallOut → Prop) : headRound ref09_Way_C ref09_Way_lv [true, true, true, true, false, true, false] ref09_Way_b (ref09_Way_s0 n k_ r_ out) (fnK ref09_Way_C ref09_Way_r ref09_Way_hs Q) =
    (condP (decide ((w64 (k_ + (1 : Int))) < (((List.length r_) : Nat) : Int))) ((((0 : Int) ≤ k_) ∧ (k_ < (((List.length r_) : Nat) : Int))) ∧ (((TY.chk (TY.sp (32 : Nat)) (RC.get (RC.p (1 : Nat) r_) ([(PE.i (Int.toNat k_))] : List PE))) = true) ∧ (condP (decide ((((List.length (PV.els (RC.get (RC.p (1 : Nat) r_) ([(PE.i (Int.toNat k_))] : List PE)))) : Nat) : Int) ≤ (ixor n (1 : Int)))) ((((0 : Int) ≤ k_) ∧ (k_ < (((List.length r_) : Nat) : Int))) ∧ (((TY.chk (TY.sp (32 : Nat)) (RC.get (RC.p (1 : Nat) r_) ([(PE.i (Int.toNat k_))] : List PE))) = true) ∧ (((((0 : Int) ≤ n) ∧ (n < (((List.length (PV.els (RC.get (RC.p (1 : Nat) r_) ([(PE.i (Int.toNat k_))] : List PE)))) : Nat) : Int))) ∧ ((TY.chk (TY.arr EK.u8 (32 : Nat)) (List.getD (PV.els (RC.get (RC.p (1 : Nat) r_) ([(PE.i (Int.toNat k_))] : List PE))) (Int.toNat n) PV.nilp)) = true)) ∧ (((((List.length (out ++ ([(TY.eta (TY.arr EK.u8 (32 : Nat)) (List.getD (PV.els (RC.get (RC.p (1 : Nat) r_) ([(PE.i (Int.toNat k_))] : List PE))) (Int.toNat n) PV.nilp))] : List PV))) * (32 : Nat)) ≤ (70368744177664 : Nat)) ∧ ((List.length (out ++ ([(TY.eta (TY.arr EK.u8 (32 : Nat)) (List.getD (PV.els (RC.get (RC.p (1 : Nat) r_) ([(PE.i (Int.toNat k_))] : List PE))) (Int.toNat n) PV.nilp))] : List PV))) ≤ (70368744177664 : Nat))) ∧ (((2 : Int) ≠ (0 : Int)) ∧ (headP ref09_Way_C ref09_Way_lv [true, true, true, true, false, true, false] ref09_Way_b (ref09_Way_s0 (w64 (Int.tdiv n (2 : Int))) (w64 (k_ + (1 : Int))) r_ (out ++ ([(TY.eta (TY.arr EK.u8 (32 : Nat)) (List.getD (PV.els (RC.get (RC.p (1 : Nat) r_) ([(PE.i (Int.toNat k_))] : List PE))) (Int.toNat n) PV.nilp))] : List PV))) (fnK ref09_Way_C ref09_Way_r ref09_Way_hs Q))))))) ((((0 : Int) ≤ k_) ∧ (k_ < (((List.length r_) : Nat) : Int))) ∧ (((TY.chk (TY.sp (32 : Nat)) (RC.get (RC.p (1 : Nat) r_) ([(PE.i (Int.toNat k_))] : List PE))) = true) ∧ (((((0 : Int) ≤ (ixor n (1 : Int))) ∧ ((ixor n (1 : Int)) < (((List.length (PV.els (RC.get (RC.p (1 : Nat) r_) ([(PE.i (Int.toNat k_))] : List PE)))) : Nat) : Int))) ∧ ((TY.chk (TY.arr EK.u8 (32 : Nat)) (List.getD (PV.els (RC.get (RC.p (1 : Nat) r_) ([(PE.i (Int.toNat k_))] : List PE))) (Int.toNat (ixor n (1 : Int))) PV.nilp)) = true)) ∧ (((((List.length (out ++ ([(TY.eta (TY.arr EK.u8 (32 : Nat)) (List.getD (PV.els (RC.get (RC.p (1 : Nat) r_) ([(PE.i (Int.toNat k_))] : List PE))) (Int.toNat (ixor n (1 : Int))) PV.nilp))] : List PV))) * (32 : Nat)) ≤ (70368744177664 : Nat)) ∧ ((List.length (out ++ ([(TY.eta (TY.arr EK.u8 (32 : Nat)) (List.getD (PV.els (RC.get (RC.p (1 : Nat) r_) ([(PE.i (Int.toNat k_))] : List PE))) (Int.toNat (ixor n (1 : Int))) PV.nilp))] : List PV))) ≤ (70368744177664 : Nat))) ∧ (((2 : Int) ≠ (0 : Int)) ∧ (headP ref09_Way_C ref09_Way_lv [true, true, true, true, false, true, false] ref09_Way_b (ref09_Way_s0 (w64 (Int.tdiv n (2 : Int))) (w64 (k_ + (1 : Int))) r_ (out ++ ([(TY.eta (TY.arr EK.u8 (32 : Nat)) (List.getD (PV.els (RC.get (RC.p (1 : Nat) r_) ([(PE.i (Int.toNat k_))] : List PE))) (Int.toNat (ixor n (1 : Int))) PV.nilp))] : List PV))) (fnK ref09_Way_C ref09_Way_r ref09_Way_hs Q)))))))))) (((PV.flats out) = true) ∧ (Q (ref09_Way_enc ((0 : Int), out))))) := by kernel_rfl
theorem ref09_Way_k0 {r : Int × List PV} {Q : CallOut → Prop} (hQ : Q (ref09_Way_enc r)) : ∀ k : Nat, (∀ (n : Int) (k_ : Int) (r_ : List PV) (out : List PV), ref09_Way_h0 k n k_ r_ out = some r → headP ref09_Way_C ref09_Way_lv [true, true, true, true, false, true, false] ref09_Way_b (ref09_Way_s0 n k_ r_ out) (fnK ref09_Way_C ref09_Way_r ref09_Way_hs Q))
  | 0 => fun _ _ _ _ h => no_ok h
  | k + 1 => fun n k_ r_ out h => headP_step (Eq.mpr (ref09_Way_g0 n k_ r_ out Q) (have h := (ref09_Way_h0_q k n k_ r_ out).symm.trans h; cond_ok h (fun h => ite_ok h fun hc0 h => ite_ok h fun hc1 h => cond_ok h (fun h => ⟨hc0, ⟨hc1, ite_ok h fun hc2 h => ite_ok h fun hc3 h => ⟨by decide +kernel, (ref09_Way_k0 hQ k) _ _ _ _ h⟩⟩⟩) (fun h => ⟨hc0, ⟨hc1, ite_ok h fun hc2 h => ite_ok h fun hc3 h => ⟨by decide +kernel, (ref09_Way_k0 hQ k) _ _ _ _ h⟩⟩⟩)) (fun h => ite_ok h fun hc0 h => ret_ok (Q := Q) (e := ref09_Way_enc) h hQ)))
theorem ref09_Way_e (l : List PV) (n : Int) (Q : CallOut → Prop) : evalFnP ref09_Way_C ref09_Way_lv ref09_Way_r ref09_Way_hs ref09_Way_b [.pv (.sp 32 l), .pv (.sc .i n)] [] Q =
    (condP (eqb (decide (n < (0 : Int))) false) (condP (bif false then true else (decide ((((List.length l) : Nat) : Int) ≤ n))) (((PV.flats ([] : List PV)) = true) ∧ (Q (ref09_Way_enc ((2 : Int), ([] : List PV))))) ((((hashesB l) = true) ∧ ((List.length l) ≤ (1099511627700 : Nat))) ∧ (headP ref09_Way_C ref09_Way_lv [true, true, true, true, false, true, false] ref09_Way_b (ref09_Way_s0 n (0 : Int) (rowsPV (hOfs l)) ([] : List PV)) (fnK ref09_Way_C ref09_Way_r ref09_Way_hs Q)))) (((PV.flats ([] : List PV)) = true) ∧ (Q (ref09_Way_enc ((2 : Int), ([] : List PV)))))) := by kernel_rfl
theorem ref09_Way_w {k : Nat} (l : List PV) (n : Int) {r} {Q : CallOut → Prop} (h : ref09_Way k l n = some r) (hQ : Q (ref09_Way_enc r)) : evalFnP ref09_Way_C ref09_Way_lv ref09_Way_r ref09_Way_hs ref09_Way_b [.pv (.sp 32 l), .pv (.sc .i n)] [] Q :=
  Eq.mpr (ref09_Way_e l n Q) (have h := (ref09_Way_q k l n).symm.trans h; cond_ok h (fun h => cond_ok h (fun h => ⟨by decide +kernel, ret_ok (Q := Q) (e := ref09_Way_enc) h hQ⟩) (fun h => ite_ok h fun hc0 h => (ref09_Way_k0 hQ _) _ _ _ _ h)) (fun h => ⟨by decide +kernel, ret_ok (Q := Q) (e := ref09_Way_enc) h hQ⟩))
def ref09_Way_c : Ans
  | [.pv (.sp 32 l), .pv (.sc .i n)], [] => some (some (hashesB l = true ∧ l.length ≤ 1099511627700), ref09_Way_enc ((wayE (hOfs l) n, wayL (hOfs l) n)))
  | _, _ => none
theorem ref09_Way_tok : TblOK Tryd.prog theG ref09_Way_T := .cons ⟨by kernel_rfl, ref09_rows_ok⟩ (.nil)
theorem ref09_Way_ok : FnOK Tryd.prog theG 15 (unW ref09_Way_c) := by
  refine FnOK.ofC (T := ref09_Way_T) (nt := 54) (np := 0) (nf := false) (hs := ref09_Way_hs) (fn := Tryd.f15) (body := ref09_Way_b) ref09_Way_tok (by kernel_rfl) (by kernel_rfl) (by kernel_rfl) (by kernel_rfl) (c := ref09_Way_c) (lv := ref09_Way_lv) ?_
  intro xs mem p out h hp
  unfold ref09_Way_c at h
  split at h
  · cases h
    obtain ⟨k, hk⟩ := ref09_Way_spec _ _ hp
    exact ref09_Way_w _ _ hk rfl
  · cases h
end
end Go.Proofs.YtbdajagcinfeeaaDoor.M
