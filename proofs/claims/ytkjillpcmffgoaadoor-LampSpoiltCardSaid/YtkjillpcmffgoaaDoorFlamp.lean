/- Part of the proofs: what functions of the program do: plain functions, and the walks that show it. No condition. -/
import Derived.KernelRfl
import Derived.Test.YtkjillpcmffgoaaDoorProg
import Derived.WalkKit
import Derived.Laws.BytesArg
import Derived.Test.YtkjillpcmffgoaaDoorLe
import Derived.Test.YtkjillpcmffgoaaDoorSwords
import Derived.Test.YtkjillpcmffgoaaDoorSshaS
import Derived.Test.YtkjillpcmffgoaaDoorSmerS
import Derived.Test.YtkjillpcmffgoaaDoorSlampS
import Derived.Test.YtkjillpcmffgoaaDoorFsha
import Derived.Test.YtkjillpcmffgoaaDoorSshaK
set_option linter.unusedVariables false
set_option linter.unusedSimpArgs false
set_option autoImplicit false
namespace Go.Proofs.YtkjillpcmffgoaaDoor.M
open Go
noncomputable section
/-- moneyer/lamp.secrets -/
def lamp_secrets (seed : Vector UInt8 32) : Vector UInt8 32 :=
  seed
theorem lamp_secrets_q (seed : Vector UInt8 32) : lamp_secrets seed = (seed) := by kernel_rfl

end
end Go.Proofs.YtkjillpcmffgoaaDoor.M

namespace Go.Proofs.YtkjillpcmffgoaaDoor.M
open Go
noncomputable section
/-- moneyer/lamp.Bit -/
def lamp_Bit (digest : Vector UInt8 32) (k_1 : UInt8) : Option (UInt8) :=
  if ((0 : Int) ≤ (((UInt8.toNat ((k_1 % (32 : UInt8)) / (8 : UInt8))) : Nat) : Int)) ∧ ((((UInt8.toNat ((k_1 % (32 : UInt8)) / (8 : UInt8))) : Nat) : Int) < (32 : Int)) then
    some ((shr_u8 (List.getD (Vector.toList digest) (Int.toNat (((UInt8.toNat ((k_1 % (32 : UInt8)) / (8 : UInt8))) : Nat) : Int)) (0 : UInt8)) (UInt8.toNat ((k_1 % (32 : UInt8)) % (8 : UInt8)))) &&& (1 : UInt8))
  else none
theorem lamp_Bit_q (digest : Vector UInt8 32) (k_1 : UInt8) : lamp_Bit digest k_1 = (if ((0 : Int) ≤ (((UInt8.toNat ((k_1 % (32 : UInt8)) / (8 : UInt8))) : Nat) : Int)) ∧ ((((UInt8.toNat ((k_1 % (32 : UInt8)) / (8 : UInt8))) : Nat) : Int) < (32 : Int)) then
    some ((shr_u8 (List.getD (Vector.toList digest) (Int.toNat (((UInt8.toNat ((k_1 % (32 : UInt8)) / (8 : UInt8))) : Nat) : Int)) (0 : UInt8)) (UInt8.toNat ((k_1 % (32 : UInt8)) % (8 : UInt8)))) &&& (1 : UInt8))
  else none) := by kernel_rfl
theorem lamp_Bit_spec (d : Vector UInt8 32) (k : UInt8) : lamp_Bit d k = some (bitV d k) := by
  have h1 : ((k % 32) / 8).toNat < 32 := by
    rw [UInt8.toNat_div, UInt8.toNat_mod]
    have : k.toNat % (32 : UInt8).toNat < 32 := Nat.mod_lt _ (by decide)
    have h8 : (8 : UInt8).toNat = 8 := rfl
    rw [h8]
    omega
  rw [lamp_Bit_q, if_pos ⟨by omega, by omega⟩, bitV_eq, Int.toNat_natCast]

end
end Go.Proofs.YtkjillpcmffgoaaDoor.M

namespace Go.Proofs.YtkjillpcmffgoaaDoor.M
open Go
noncomputable section
/-- the loop over a function of moneyer/lamp.Sign -/
def lamp_Sign_r0 : List (UInt8 × (Vector UInt8 32) × (Vector UInt8 32)) → (Vector UInt8 32) → (List UInt8) → Option (List UInt8)
  | [], digest, sigm => some sigm
  | (k_3, p, q) :: es, digest, sigm => bif decide ((bitV digest k_3) = (0 : UInt8)) then (if (List.length (List.take ((Int.toNat (32 : Int)) - (Int.toNat (0 : Int))) (List.drop (Int.toNat (0 : Int)) (Vector.toList q)))) ≤ (1099511627776 : Nat) then
        if (((List.length (sigm ++ (List.take ((Int.toNat (32 : Int)) - (Int.toNat (0 : Int))) (List.drop (Int.toNat (0 : Int)) (Vector.toList p))))) * (1 : Nat)) ≤ (70368744177664 : Nat)) ∧ ((List.length (sigm ++ (List.take ((Int.toNat (32 : Int)) - (Int.toNat (0 : Int))) (List.drop (Int.toNat (0 : Int)) (Vector.toList p))))) ≤ (70368744177664 : Nat)) then
          if (((List.length ((sigm ++ (List.take ((Int.toNat (32 : Int)) - (Int.toNat (0 : Int))) (List.drop (Int.toNat (0 : Int)) (Vector.toList p)))) ++ (List.take ((Int.toNat (32 : Int)) - (Int.toNat (0 : Int))) (List.drop (Int.toNat (0 : Int)) (Vector.toList (shaSum (List.take ((Int.toNat (32 : Int)) - (Int.toNat (0 : Int))) (List.drop (Int.toNat (0 : Int)) (Vector.toList q))))))))) * (1 : Nat)) ≤ (70368744177664 : Nat)) ∧ ((List.length ((sigm ++ (List.take ((Int.toNat (32 : Int)) - (Int.toNat (0 : Int))) (List.drop (Int.toNat (0 : Int)) (Vector.toList p)))) ++ (List.take ((Int.toNat (32 : Int)) - (Int.toNat (0 : Int))) (List.drop (Int.toNat (0 : Int)) (Vector.toList (shaSum (List.take ((Int.toNat (32 : Int)) - (Int.toNat (0 : Int))) (List.drop (Int.toNat (0 : Int)) (Vector.toList q))))))))) ≤ (70368744177664 : Nat)) then
            lamp_Sign_r0 es digest ((sigm ++ (List.take ((Int.toNat (32 : Int)) - (Int.toNat (0 : Int))) (List.drop (Int.toNat (0 : Int)) (Vector.toList p)))) ++ (List.take ((Int.toNat (32 : Int)) - (Int.toNat (0 : Int))) (List.drop (Int.toNat (0 : Int)) (Vector.toList (shaSum (List.take ((Int.toNat (32 : Int)) - (Int.toNat (0 : Int))) (List.drop (Int.toNat (0 : Int)) (Vector.toList q))))))))
          else none
        else none
      else none)
      else (bif decide ((bitV digest k_3) = (1 : UInt8)) then (if (List.length (List.take ((Int.toNat (32 : Int)) - (Int.toNat (0 : Int))) (List.drop (Int.toNat (0 : Int)) (Vector.toList p)))) ≤ (1099511627776 : Nat) then
          if (((List.length (sigm ++ (List.take ((Int.toNat (32 : Int)) - (Int.toNat (0 : Int))) (List.drop (Int.toNat (0 : Int)) (Vector.toList q))))) * (1 : Nat)) ≤ (70368744177664 : Nat)) ∧ ((List.length (sigm ++ (List.take ((Int.toNat (32 : Int)) - (Int.toNat (0 : Int))) (List.drop (Int.toNat (0 : Int)) (Vector.toList q))))) ≤ (70368744177664 : Nat)) then
            if (((List.length ((sigm ++ (List.take ((Int.toNat (32 : Int)) - (Int.toNat (0 : Int))) (List.drop (Int.toNat (0 : Int)) (Vector.toList q)))) ++ (List.take ((Int.toNat (32 : Int)) - (Int.toNat (0 : Int))) (List.drop (Int.toNat (0 : Int)) (Vector.toList (shaSum (List.take ((Int.toNat (32 : Int)) - (Int.toNat (0 : Int))) (List.drop (Int.toNat (0 : Int)) (Vector.toList p))))))))) * (1 : Nat)) ≤ (70368744177664 : Nat)) ∧ ((List.length ((sigm ++ (List.take ((Int.toNat (32 : Int)) - (Int.toNat (0 : Int))) (List.drop (Int.toNat (0 : Int)) (Vector.toList q)))) ++ (List.take ((Int.toNat (32 : Int)) - (Int.toNat (0 : Int))) (List.drop (Int.toNat (0 : Int)) (Vector.toList (shaSum (List.take ((Int.toNat (32 : Int)) - (Int.toNat (0 : Int))) (List.drop (Int.toNat (0 : Int)) (Vector.toList p))))))))) ≤ (70368744177664 : Nat)) then
              lamp_Sign_r0 es digest ((sigm ++ (List.take ((Int.toNat (32 : Int)) - (Int.toNat (0 : Int))) (List.drop (Int.toNat (0 : Int)) (Vector.toList q)))) ++ (List.take ((Int.toNat (32 : Int)) - (Int.toNat (0 : Int))) (List.drop (Int.toNat (0 : Int)) (Vector.toList (shaSum (List.take ((Int.toNat (32 : Int)) - (Int.toNat (0 : Int))) (List.drop (Int.toNat (0 : Int)) (Vector.toList p))))))))
            else none
          else none
        else none)
        else (none))
theorem lamp_Sign_r0_n (digest : Vector UInt8 32) (sigm : List UInt8) : lamp_Sign_r0 [] digest sigm =
  (some sigm) := by kernel_rfl
theorem lamp_Sign_r0_c (k_3 : UInt8) (p : Vector UInt8 32) (q : Vector UInt8 32) (es : List (UInt8 × (Vector UInt8 32) × (Vector UInt8 32))) (digest : Vector UInt8 32) (sigm : List UInt8) : lamp_Sign_r0 ((k_3, p, q) :: es) digest sigm =
  (bif decide ((bitV digest k_3) = (0 : UInt8)) then (if (List.length (List.take ((Int.toNat (32 : Int)) - (Int.toNat (0 : Int))) (List.drop (Int.toNat (0 : Int)) (Vector.toList q)))) ≤ (1099511627776 : Nat) then
        if (((List.length (sigm ++ (List.take ((Int.toNat (32 : Int)) - (Int.toNat (0 : Int))) (List.drop (Int.toNat (0 : Int)) (Vector.toList p))))) * (1 : Nat)) ≤ (70368744177664 : Nat)) ∧ ((List.length (sigm ++ (List.take ((Int.toNat (32 : Int)) - (Int.toNat (0 : Int))) (List.drop (Int.toNat (0 : Int)) (Vector.toList p))))) ≤ (70368744177664 : Nat)) then
          if (((List.length ((sigm ++ (List.take ((Int.toNat (32 : Int)) - (Int.toNat (0 : Int))) (List.drop (Int.toNat (0 : Int)) (Vector.toList p)))) ++ (List.take ((Int.toNat (32 : Int)) - (Int.toNat (0 : Int))) (List.drop (Int.toNat (0 : Int)) (Vector.toList (shaSum (List.take ((Int.toNat (32 : Int)) - (Int.toNat (0 : Int))) (List.drop (Int.toNat (0 : Int)) (Vector.toList q))))))))) * (1 : Nat)) ≤ (70368744177664 : Nat)) ∧ ((List.length ((sigm ++ (List.take ((Int.toNat (32 : Int)) - (Int.toNat (0 : Int))) (List.drop (Int.toNat (0 : Int)) (Vector.toList p)))) ++ (List.take ((Int.toNat (32 : Int)) - (Int.toNat (0 : Int))) (List.drop (Int.toNat (0 : Int)) (Vector.toList (shaSum (List.take ((Int.toNat (32 : Int)) - (Int.toNat (0 : Int))) (List.drop (Int.toNat (0 : Int)) (Vector.toList q))))))))) ≤ (70368744177664 : Nat)) then
            lamp_Sign_r0 es digest ((sigm ++ (List.take ((Int.toNat (32 : Int)) - (Int.toNat (0 : Int))) (List.drop (Int.toNat (0 : Int)) (Vector.toList p)))) ++ (List.take ((Int.toNat (32 : Int)) - (Int.toNat (0 : Int))) (List.drop (Int.toNat (0 : Int)) (Vector.toList (shaSum (List.take ((Int.toNat (32 : Int)) - (Int.toNat (0 : Int))) (List.drop (Int.toNat (0 : Int)) (Vector.toList q))))))))
          else none
        else none
      else none)
      else (bif decide ((bitV digest k_3) = (1 : UInt8)) then (if (List.length (List.take ((Int.toNat (32 : Int)) - (Int.toNat (0 : Int))) (List.drop (Int.toNat (0 : Int)) (Vector.toList p)))) ≤ (1099511627776 : Nat) then
          if (((List.length (sigm ++ (List.take ((Int.toNat (32 : Int)) - (Int.toNat (0 : Int))) (List.drop (Int.toNat (0 : Int)) (Vector.toList q))))) * (1 : Nat)) ≤ (70368744177664 : Nat)) ∧ ((List.length (sigm ++ (List.take ((Int.toNat (32 : Int)) - (Int.toNat (0 : Int))) (List.drop (Int.toNat (0 : Int)) (Vector.toList q))))) ≤ (70368744177664 : Nat)) then
            if (((List.length ((sigm ++ (List.take ((Int.toNat (32 : Int)) - (Int.toNat (0 : Int))) (List.drop (Int.toNat (0 : Int)) (Vector.toList q)))) ++ (List.take ((Int.toNat (32 : Int)) - (Int.toNat (0 : Int))) (List.drop (Int.toNat (0 : Int)) (Vector.toList (shaSum (List.take ((Int.toNat (32 : Int)) - (Int.toNat (0 : Int))) (List.drop (Int.toNat (0 : Int)) (Vector.toList p))))))))) * (1 : Nat)) ≤ (70368744177664 : Nat)) ∧ ((List.length ((sigm ++ (List.take ((Int.toNat (32 : Int)) - (Int.toNat (0 : Int))) (List.drop (Int.toNat (0 : Int)) (Vector.toList q)))) ++ (List.take ((Int.toNat (32 : Int)) - (Int.toNat (0 : Int))) (List.drop (Int.toNat (0 : Int)) (Vector.toList (shaSum (List.take ((Int.toNat (32 : Int)) - (Int.toNat (0 : Int))) (List.drop (Int.toNat (0 : Int)) (Vector.toList p))))))))) ≤ (70368744177664 : Nat)) then
              lamp_Sign_r0 es digest ((sigm ++ (List.take ((Int.toNat (32 : Int)) - (Int.toNat (0 : Int))) (List.drop (Int.toNat (0 : Int)) (Vector.toList q)))) ++ (List.take ((Int.toNat (32 : Int)) - (Int.toNat (0 : Int))) (List.drop (Int.toNat (0 : Int)) (Vector.toList (shaSum (List.take ((Int.toNat (32 : Int)) - (Int.toNat (0 : Int))) (List.drop (Int.toNat (0 : Int)) (Vector.toList p))))))))
            else none
          else none
        else none)
        else (none))) := by kernel_rfl
/-- moneyer/lamp.Sign -/
def lamp_Sign (seed : Vector UInt8 32) (digest : Vector UInt8 32) : Option (List UInt8) :=
  lamp_Sign_r0 (secL (lamp_secrets seed)) digest ([] : List UInt8)
theorem lamp_Sign_q (seed : Vector UInt8 32) (digest : Vector UInt8 32) : lamp_Sign seed digest = (lamp_Sign_r0 (secL (lamp_secrets seed)) digest ([] : List UInt8)) := by kernel_rfl
theorem lamp_Sign_r0_spec : ∀ (l : List (UInt8 × Vector UInt8 32 × Vector UInt8 32)) (d : Vector UInt8 32) (acc : List UInt8), acc.length + 64 * l.length ≤ 4096 →
    lamp_Sign_r0 l d acc = some (acc ++ sigB d l)
  | [], d, acc, h => by rw [lamp_Sign_r0_n, sigB_nil, List.append_nil]
  | (k, p, q) :: l, d, acc, h => by
    rw [List.length_cons] at h
    rw [lamp_Sign_r0_c, sigB_cons]
    simp only [td32, Vector.length_toList]
    have l0 : ∀ x : Vector UInt8 32, x.toList.length = 32 := fun x => Vector.length_toList
    have e1 : ∀ x : Vector UInt8 32, (acc ++ x.toList).length = acc.length + 32 := fun x => by rw [List.length_append, l0]
    have e2 : ∀ x y : Vector UInt8 32, (acc ++ x.toList ++ y.toList).length = acc.length + 64 := fun x y => by rw [List.length_append, List.length_append, l0, l0]
    simp only [e1, e2]
    rcases bitV_01 d k with hb | hb
    · rw [hb, decide_eq_true rfl, cond_true, if_pos (by omega), if_pos ⟨by omega, by omega⟩, if_pos ⟨by omega, by omega⟩, lamp_Sign_r0_spec l d _ (by rw [e2]; omega)]
      rw [hhL_eq, List.append_assoc, List.append_assoc, List.append_assoc]
      rfl
    · rw [hb, decide_eq_false (by decide), cond_false, decide_eq_true rfl, cond_true, if_pos (by omega), if_pos ⟨by omega, by omega⟩, if_pos ⟨by omega, by omega⟩, lamp_Sign_r0_spec l d _ (by rw [e2]; omega)]
      rw [hhL_eq, List.append_assoc, List.append_assoc, List.append_assoc]
      rfl
theorem lamp_Sign_spec (seed d : Vector UInt8 32) : lamp_Sign seed d = some (sigL seed d) := by
  have e : lamp_secrets seed = seed := rfl
  rw [lamp_Sign_q, e, lamp_Sign_r0_spec _ _ _ (by rw [secL_length]; decide), sigL_eq, List.nil_append]

end
end Go.Proofs.YtkjillpcmffgoaaDoor.M

namespace Go.Proofs.YtkjillpcmffgoaaDoor.M
open Go
noncomputable section
/-- the loop over a function of moneyer/lamp.Key -/
def lamp_Key_r0 : List (UInt8 × (Vector UInt8 32) × (Vector UInt8 32)) → (Vector UInt8 32) → (List UInt8) → Option (Vector UInt8 32)
  | [], t2, allm => if (List.length allm) ≤ (1099511627776 : Nat) then
      some (shaSum allm)
    else none
  | (k_3, p, q) :: es, t2, allm => if (((List.length ([(PV.arr EK.u8 (32 : Nat) p), (PV.arr EK.u8 (32 : Nat) q)] : List PV)) = (2 : Nat)) ∧ (((0 : Int) ≤ (0 : Int)) ∧ ((0 : Int) < (2 : Int)))) ∧ ((TY.chk (TY.arr EK.u8 (32 : Nat)) (List.getD ([(PV.arr EK.u8 (32 : Nat) p), (PV.arr EK.u8 (32 : Nat) q)] : List PV) (0 : Nat) PV.nilp)) = true) then
      if (List.length (List.take ((Int.toNat (32 : Int)) - (Int.toNat (0 : Int))) (List.drop (Int.toNat (0 : Int)) (Vector.toList (PV.vecv EK.u8 (32 : Nat) (List.getD ([(PV.arr EK.u8 (32 : Nat) p), (PV.arr EK.u8 (32 : Nat) q)] : List PV) (0 : Nat) PV.nilp)))))) ≤ (1099511627776 : Nat) then
        if (((List.length (allm ++ (List.take ((Int.toNat (32 : Int)) - (Int.toNat (0 : Int))) (List.drop (Int.toNat (0 : Int)) (Vector.toList (shaSum (List.take ((Int.toNat (32 : Int)) - (Int.toNat (0 : Int))) (List.drop (Int.toNat (0 : Int)) (Vector.toList (PV.vecv EK.u8 (32 : Nat) (List.getD ([(PV.arr EK.u8 (32 : Nat) p), (PV.arr EK.u8 (32 : Nat) q)] : List PV) (0 : Nat) PV.nilp))))))))))) * (1 : Nat)) ≤ (70368744177664 : Nat)) ∧ ((List.length (allm ++ (List.take ((Int.toNat (32 : Int)) - (Int.toNat (0 : Int))) (List.drop (Int.toNat (0 : Int)) (Vector.toList (shaSum (List.take ((Int.toNat (32 : Int)) - (Int.toNat (0 : Int))) (List.drop (Int.toNat (0 : Int)) (Vector.toList (PV.vecv EK.u8 (32 : Nat) (List.getD ([(PV.arr EK.u8 (32 : Nat) p), (PV.arr EK.u8 (32 : Nat) q)] : List PV) (0 : Nat) PV.nilp))))))))))) ≤ (70368744177664 : Nat)) then
          if (((List.length ([(PV.arr EK.u8 (32 : Nat) p), (PV.arr EK.u8 (32 : Nat) q)] : List PV)) = (2 : Nat)) ∧ (((0 : Int) ≤ (1 : Int)) ∧ ((1 : Int) < (2 : Int)))) ∧ ((TY.chk (TY.arr EK.u8 (32 : Nat)) (List.getD ([(PV.arr EK.u8 (32 : Nat) p), (PV.arr EK.u8 (32 : Nat) q)] : List PV) (1 : Nat) PV.nilp)) = true) then
            if (List.length (List.take ((Int.toNat (32 : Int)) - (Int.toNat (0 : Int))) (List.drop (Int.toNat (0 : Int)) (Vector.toList (PV.vecv EK.u8 (32 : Nat) (List.getD ([(PV.arr EK.u8 (32 : Nat) p), (PV.arr EK.u8 (32 : Nat) q)] : List PV) (1 : Nat) PV.nilp)))))) ≤ (1099511627776 : Nat) then
              if (((List.length ((allm ++ (List.take ((Int.toNat (32 : Int)) - (Int.toNat (0 : Int))) (List.drop (Int.toNat (0 : Int)) (Vector.toList (shaSum (List.take ((Int.toNat (32 : Int)) - (Int.toNat (0 : Int))) (List.drop (Int.toNat (0 : Int)) (Vector.toList (PV.vecv EK.u8 (32 : Nat) (List.getD ([(PV.arr EK.u8 (32 : Nat) p), (PV.arr EK.u8 (32 : Nat) q)] : List PV) (0 : Nat) PV.nilp)))))))))) ++ (List.take ((Int.toNat (32 : Int)) - (Int.toNat (0 : Int))) (List.drop (Int.toNat (0 : Int)) (Vector.toList (shaSum (List.take ((Int.toNat (32 : Int)) - (Int.toNat (0 : Int))) (List.drop (Int.toNat (0 : Int)) (Vector.toList (PV.vecv EK.u8 (32 : Nat) (List.getD ([(PV.arr EK.u8 (32 : Nat) p), (PV.arr EK.u8 (32 : Nat) q)] : List PV) (1 : Nat) PV.nilp))))))))))) * (1 : Nat)) ≤ (70368744177664 : Nat)) ∧ ((List.length ((allm ++ (List.take ((Int.toNat (32 : Int)) - (Int.toNat (0 : Int))) (List.drop (Int.toNat (0 : Int)) (Vector.toList (shaSum (List.take ((Int.toNat (32 : Int)) - (Int.toNat (0 : Int))) (List.drop (Int.toNat (0 : Int)) (Vector.toList (PV.vecv EK.u8 (32 : Nat) (List.getD ([(PV.arr EK.u8 (32 : Nat) p), (PV.arr EK.u8 (32 : Nat) q)] : List PV) (0 : Nat) PV.nilp)))))))))) ++ (List.take ((Int.toNat (32 : Int)) - (Int.toNat (0 : Int))) (List.drop (Int.toNat (0 : Int)) (Vector.toList (shaSum (List.take ((Int.toNat (32 : Int)) - (Int.toNat (0 : Int))) (List.drop (Int.toNat (0 : Int)) (Vector.toList (PV.vecv EK.u8 (32 : Nat) (List.getD ([(PV.arr EK.u8 (32 : Nat) p), (PV.arr EK.u8 (32 : Nat) q)] : List PV) (1 : Nat) PV.nilp))))))))))) ≤ (70368744177664 : Nat)) then
                lamp_Key_r0 es t2 ((allm ++ (List.take ((Int.toNat (32 : Int)) - (Int.toNat (0 : Int))) (List.drop (Int.toNat (0 : Int)) (Vector.toList (shaSum (List.take ((Int.toNat (32 : Int)) - (Int.toNat (0 : Int))) (List.drop (Int.toNat (0 : Int)) (Vector.toList (PV.vecv EK.u8 (32 : Nat) (List.getD ([(PV.arr EK.u8 (32 : Nat) p), (PV.arr EK.u8 (32 : Nat) q)] : List PV) (0 : Nat) PV.nilp)))))))))) ++ (List.take ((Int.toNat (32 : Int)) - (Int.toNat (0 : Int))) (List.drop (Int.toNat (0 : Int)) (Vector.toList (shaSum (List.take ((Int.toNat (32 : Int)) - (Int.toNat (0 : Int))) (List.drop (Int.toNat (0 : Int)) (Vector.toList (PV.vecv EK.u8 (32 : Nat) (List.getD ([(PV.arr EK.u8 (32 : Nat) p), (PV.arr EK.u8 (32 : Nat) q)] : List PV) (1 : Nat) PV.nilp))))))))))
              else none
            else none
          else none
        else none
      else none
    else none
theorem lamp_Key_r0_n (t2 : Vector UInt8 32) (allm : List UInt8) : lamp_Key_r0 [] t2 allm =
  (if (List.length allm) ≤ (1099511627776 : Nat) then
      some (shaSum allm)
    else none) := by kernel_rfl
theorem lamp_Key_r0_c (k_3 : UInt8) (p : Vector UInt8 32) (q : Vector UInt8 32) (es : List (UInt8 × (Vector UInt8 32) × (Vector UInt8 32))) (t2 : Vector UInt8 32) (allm : List UInt8) : lamp_Key_r0 ((k_3, p, q) :: es) t2 allm =
  (if (((List.length ([(PV.arr EK.u8 (32 : Nat) p), (PV.arr EK.u8 (32 : Nat) q)] : List PV)) = (2 : Nat)) ∧ (((0 : Int) ≤ (0 : Int)) ∧ ((0 : Int) < (2 : Int)))) ∧ ((TY.chk (TY.arr EK.u8 (32 : Nat)) (List.getD ([(PV.arr EK.u8 (32 : Nat) p), (PV.arr EK.u8 (32 : Nat) q)] : List PV) (0 : Nat) PV.nilp)) = true) then
      if (List.length (List.take ((Int.toNat (32 : Int)) - (Int.toNat (0 : Int))) (List.drop (Int.toNat (0 : Int)) (Vector.toList (PV.vecv EK.u8 (32 : Nat) (List.getD ([(PV.arr EK.u8 (32 : Nat) p), (PV.arr EK.u8 (32 : Nat) q)] : List PV) (0 : Nat) PV.nilp)))))) ≤ (1099511627776 : Nat) then
        if (((List.length (allm ++ (List.take ((Int.toNat (32 : Int)) - (Int.toNat (0 : Int))) (List.drop (Int.toNat (0 : Int)) (Vector.toList (shaSum (List.take ((Int.toNat (32 : Int)) - (Int.toNat (0 : Int))) (List.drop (Int.toNat (0 : Int)) (Vector.toList (PV.vecv EK.u8 (32 : Nat) (List.getD ([(PV.arr EK.u8 (32 : Nat) p), (PV.arr EK.u8 (32 : Nat) q)] : List PV) (0 : Nat) PV.nilp))))))))))) * (1 : Nat)) ≤ (70368744177664 : Nat)) ∧ ((List.length (allm ++ (List.take ((Int.toNat (32 : Int)) - (Int.toNat (0 : Int))) (List.drop (Int.toNat (0 : Int)) (Vector.toList (shaSum (List.take ((Int.toNat (32 : Int)) - (Int.toNat (0 : Int))) (List.drop (Int.toNat (0 : Int)) (Vector.toList (PV.vecv EK.u8 (32 : Nat) (List.getD ([(PV.arr EK.u8 (32 : Nat) p), (PV.arr EK.u8 (32 : Nat) q)] : List PV) (0 : Nat) PV.nilp))))))))))) ≤ (70368744177664 : Nat)) then
          if (((List.length ([(PV.arr EK.u8 (32 : Nat) p), (PV.arr EK.u8 (32 : Nat) q)] : List PV)) = (2 : Nat)) ∧ (((0 : Int) ≤ (1 : Int)) ∧ ((1 : Int) < (2 : Int)))) ∧ ((TY.chk (TY.arr EK.u8 (32 : Nat)) (List.getD ([(PV.arr EK.u8 (32 : Nat) p), (PV.arr EK.u8 (32 : Nat) q)] : List PV) (1 : Nat) PV.nilp)) = true) then
            if (List.length (List.take ((Int.toNat (32 : Int)) - (Int.toNat (0 : Int))) (List.drop (Int.toNat (0 : Int)) (Vector.toList (PV.vecv EK.u8 (32 : Nat) (List.getD ([(PV.arr EK.u8 (32 : Nat) p), (PV.arr EK.u8 (32 : Nat) q)] : List PV) (1 : Nat) PV.nilp)))))) ≤ (1099511627776 : Nat) then
              if (((List.length ((allm ++ (List.take ((Int.toNat (32 : Int)) - (Int.toNat (0 : Int))) (List.drop (Int.toNat (0 : Int)) (Vector.toList (shaSum (List.take ((Int.toNat (32 : Int)) - (Int.toNat (0 : Int))) (List.drop (Int.toNat (0 : Int)) (Vector.toList (PV.vecv EK.u8 (32 : Nat) (List.getD ([(PV.arr EK.u8 (32 : Nat) p), (PV.arr EK.u8 (32 : Nat) q)] : List PV) (0 : Nat) PV.nilp)))))))))) ++ (List.take ((Int.toNat (32 : Int)) - (Int.toNat (0 : Int))) (List.drop (Int.toNat (0 : Int)) (Vector.toList (shaSum (List.take ((Int.toNat (32 : Int)) - (Int.toNat (0 : Int))) (List.drop (Int.toNat (0 : Int)) (Vector.toList (PV.vecv EK.u8 (32 : Nat) (List.getD ([(PV.arr EK.u8 (32 : Nat) p), (PV.arr EK.u8 (32 : Nat) q)] : List PV) (1 : Nat) PV.nilp))))))))))) * (1 : Nat)) ≤ (70368744177664 : Nat)) ∧ ((List.length ((allm ++ (List.take ((Int.toNat (32 : Int)) - (Int.toNat (0 : Int))) (List.drop (Int.toNat (0 : Int)) (Vector.toList (shaSum (List.take ((Int.toNat (32 : Int)) - (Int.toNat (0 : Int))) (List.drop (Int.toNat (0 : Int)) (Vector.toList (PV.vecv EK.u8 (32 : Nat) (List.getD ([(PV.arr EK.u8 (32 : Nat) p), (PV.arr EK.u8 (32 : Nat) q)] : List PV) (0 : Nat) PV.nilp)))))))))) ++ (List.take ((Int.toNat (32 : Int)) - (Int.toNat (0 : Int))) (List.drop (Int.toNat (0 : Int)) (Vector.toList (shaSum (List.take ((Int.toNat (32 : Int)) - (Int.toNat (0 : Int))) (List.drop (Int.toNat (0 : Int)) (Vector.toList (PV.vecv EK.u8 (32 : Nat) (List.getD ([(PV.arr EK.u8 (32 : Nat) p), (PV.arr EK.u8 (32 : Nat) q)] : List PV) (1 : Nat) PV.nilp))))))))))) ≤ (70368744177664 : Nat)) then
                lamp_Key_r0 es t2 ((allm ++ (List.take ((Int.toNat (32 : Int)) - (Int.toNat (0 : Int))) (List.drop (Int.toNat (0 : Int)) (Vector.toList (shaSum (List.take ((Int.toNat (32 : Int)) - (Int.toNat (0 : Int))) (List.drop (Int.toNat (0 : Int)) (Vector.toList (PV.vecv EK.u8 (32 : Nat) (List.getD ([(PV.arr EK.u8 (32 : Nat) p), (PV.arr EK.u8 (32 : Nat) q)] : List PV) (0 : Nat) PV.nilp)))))))))) ++ (List.take ((Int.toNat (32 : Int)) - (Int.toNat (0 : Int))) (List.drop (Int.toNat (0 : Int)) (Vector.toList (shaSum (List.take ((Int.toNat (32 : Int)) - (Int.toNat (0 : Int))) (List.drop (Int.toNat (0 : Int)) (Vector.toList (PV.vecv EK.u8 (32 : Nat) (List.getD ([(PV.arr EK.u8 (32 : Nat) p), (PV.arr EK.u8 (32 : Nat) q)] : List PV) (1 : Nat) PV.nilp))))))))))
              else none
            else none
          else none
        else none
      else none
    else none) := by kernel_rfl
/-- moneyer/lamp.Key -/
def lamp_Key (seed : Vector UInt8 32) : Option (Vector UInt8 32) :=
  lamp_Key_r0 (secL (lamp_secrets seed)) (Vector.replicate (32 : Nat) (0 : UInt8)) ([] : List UInt8)
theorem lamp_Key_q (seed : Vector UInt8 32) : lamp_Key seed = (lamp_Key_r0 (secL (lamp_secrets seed)) (Vector.replicate (32 : Nat) (0 : UInt8)) ([] : List UInt8)) := by kernel_rfl
theorem lamp_Key_r0_spec : ∀ (l : List (UInt8 × Vector UInt8 32 × Vector UInt8 32)) (t2 : Vector UInt8 32) (acc : List UInt8), acc.length + 64 * l.length ≤ 4096 →
    lamp_Key_r0 l t2 acc = some (shaSum (acc ++ keyB l))
  | [], t2, acc, h => by
    rw [lamp_Key_r0_n, if_pos (by omega)]
    rw [keyB_nil, List.append_nil]
  | (k, p, q) :: l, t2, acc, h => by
    rw [List.length_cons] at h
    rw [lamp_Key_r0_c]
    simp only [vec0, vec1, td32, Vector.length_toList]
    have l1 : (shaSum p.toList).toList.length = 32 := Vector.length_toList
    have l2 : (shaSum q.toList).toList.length = 32 := Vector.length_toList
    have e1 : (acc ++ (shaSum p.toList).toList).length = acc.length + 32 := by rw [List.length_append, l1]
    have e2 : (acc ++ (shaSum p.toList).toList ++ (shaSum q.toList).toList).length = acc.length + 64 := by rw [List.length_append, List.length_append, l1, l2]
    simp only [e1, e2]
    rw [if_pos ⟨⟨rfl, by omega, by omega⟩, rfl⟩, if_pos (by omega), if_pos ⟨by omega, by omega⟩, if_pos ⟨⟨rfl, by omega, by omega⟩, rfl⟩, if_pos (by omega), if_pos ⟨by omega, by omega⟩,
      lamp_Key_r0_spec l t2 _ (by rw [e2]; omega)]
    rw [keyB_cons, hhL_eq, hhL_eq, List.append_assoc, List.append_assoc, List.append_assoc]
theorem lamp_Key_spec (seed : Vector UInt8 32) : lamp_Key seed = some (keyV seed) := by
  have e : lamp_secrets seed = seed := rfl
  rw [lamp_Key_q, e, lamp_Key_r0_spec _ _ _ (by rw [secL_length]; decide), keyV_eq, List.nil_append]

end
end Go.Proofs.YtkjillpcmffgoaaDoor.M

namespace Go.Proofs.YtkjillpcmffgoaaDoor.M
open Go
noncomputable section
/-- the loop 0 of moneyer/lamp.Check -/
def lamp_Check_h0 : Nat → (List UInt8) → Int → (Vector UInt8 32) → (Vector UInt8 32) → (List UInt8) → Option (Int)
  | 0, _, _, _, _, _ => none
  | k + 1, sig, t16, key, digest, all => bif decide (t16 < (32 : Int)) then (if ((0 : Int) ≤ (w64 ((64 : Int) * t16))) ∧ (((w64 ((64 : Int) * t16)) ≤ (w64 ((64 : Int) * (w64 (t16 + (1 : Int)))))) ∧ ((w64 ((64 : Int) * (w64 (t16 + (1 : Int))))) ≤ (((List.length sig) : Nat) : Int))) then
        if ((0 : Int) ≤ (0 : Int)) ∧ (((0 : Int) ≤ (32 : Int)) ∧ ((32 : Int) ≤ (((List.length (List.take ((Int.toNat (w64 ((64 : Int) * (w64 (t16 + (1 : Int)))))) - (Int.toNat (w64 ((64 : Int) * t16)))) (List.drop (Int.toNat (w64 ((64 : Int) * t16))) sig))) : Nat) : Int))) then
          if (List.length (List.take ((Int.toNat (32 : Int)) - (Int.toNat (0 : Int))) (List.drop (Int.toNat (0 : Int)) (List.take ((Int.toNat (w64 ((64 : Int) * (w64 (t16 + (1 : Int)))))) - (Int.toNat (w64 ((64 : Int) * t16)))) (List.drop (Int.toNat (w64 ((64 : Int) * t16))) sig))))) ≤ (1099511627776 : Nat) then
            if ((0 : Int) ≤ (32 : Int)) ∧ (((32 : Int) ≤ (((List.length (List.take ((Int.toNat (w64 ((64 : Int) * (w64 (t16 + (1 : Int)))))) - (Int.toNat (w64 ((64 : Int) * t16)))) (List.drop (Int.toNat (w64 ((64 : Int) * t16))) sig))) : Nat) : Int)) ∧ ((((List.length (List.take ((Int.toNat (w64 ((64 : Int) * (w64 (t16 + (1 : Int)))))) - (Int.toNat (w64 ((64 : Int) * t16)))) (List.drop (Int.toNat (w64 ((64 : Int) * t16))) sig))) : Nat) : Int) ≤ (((List.length (List.take ((Int.toNat (w64 ((64 : Int) * (w64 (t16 + (1 : Int)))))) - (Int.toNat (w64 ((64 : Int) * t16)))) (List.drop (Int.toNat (w64 ((64 : Int) * t16))) sig))) : Nat) : Int))) then
              bif decide ((bitV digest (UInt8.ofInt t16)) = (0 : UInt8)) then (if (TY.chk (TY.sl EK.u8) (PV.sl EK.u8 (List.take ((Int.toNat (32 : Int)) - (Int.toNat (0 : Int))) (List.drop (Int.toNat (0 : Int)) (Vector.toList (shaSum (List.take ((Int.toNat (32 : Int)) - (Int.toNat (0 : Int))) (List.drop (Int.toNat (0 : Int)) (List.take ((Int.toNat (w64 ((64 : Int) * (w64 (t16 + (1 : Int)))))) - (Int.toNat (w64 ((64 : Int) * t16)))) (List.drop (Int.toNat (w64 ((64 : Int) * t16))) sig)))))))))) = true then
                  if (((List.length (all ++ (PV.slv EK.u8 (PV.sl EK.u8 (List.take ((Int.toNat (32 : Int)) - (Int.toNat (0 : Int))) (List.drop (Int.toNat (0 : Int)) (Vector.toList (shaSum (List.take ((Int.toNat (32 : Int)) - (Int.toNat (0 : Int))) (List.drop (Int.toNat (0 : Int)) (List.take ((Int.toNat (w64 ((64 : Int) * (w64 (t16 + (1 : Int)))))) - (Int.toNat (w64 ((64 : Int) * t16)))) (List.drop (Int.toNat (w64 ((64 : Int) * t16))) sig)))))))))))) * (1 : Nat)) ≤ (70368744177664 : Nat)) ∧ ((List.length (all ++ (PV.slv EK.u8 (PV.sl EK.u8 (List.take ((Int.toNat (32 : Int)) - (Int.toNat (0 : Int))) (List.drop (Int.toNat (0 : Int)) (Vector.toList (shaSum (List.take ((Int.toNat (32 : Int)) - (Int.toNat (0 : Int))) (List.drop (Int.toNat (0 : Int)) (List.take ((Int.toNat (w64 ((64 : Int) * (w64 (t16 + (1 : Int)))))) - (Int.toNat (w64 ((64 : Int) * t16)))) (List.drop (Int.toNat (w64 ((64 : Int) * t16))) sig)))))))))))) ≤ (70368744177664 : Nat)) then
                    if (TY.chk (TY.sl EK.u8) (PV.sl EK.u8 (List.take ((Int.toNat (((List.length (List.take ((Int.toNat (w64 ((64 : Int) * (w64 (t16 + (1 : Int)))))) - (Int.toNat (w64 ((64 : Int) * t16)))) (List.drop (Int.toNat (w64 ((64 : Int) * t16))) sig))) : Nat) : Int)) - (Int.toNat (32 : Int))) (List.drop (Int.toNat (32 : Int)) (List.take ((Int.toNat (w64 ((64 : Int) * (w64 (t16 + (1 : Int)))))) - (Int.toNat (w64 ((64 : Int) * t16)))) (List.drop (Int.toNat (w64 ((64 : Int) * t16))) sig)))))) = true then
                      if (((List.length ((all ++ (PV.slv EK.u8 (PV.sl EK.u8 (List.take ((Int.toNat (32 : Int)) - (Int.toNat (0 : Int))) (List.drop (Int.toNat (0 : Int)) (Vector.toList (shaSum (List.take ((Int.toNat (32 : Int)) - (Int.toNat (0 : Int))) (List.drop (Int.toNat (0 : Int)) (List.take ((Int.toNat (w64 ((64 : Int) * (w64 (t16 + (1 : Int)))))) - (Int.toNat (w64 ((64 : Int) * t16)))) (List.drop (Int.toNat (w64 ((64 : Int) * t16))) sig))))))))))) ++ (PV.slv EK.u8 (PV.sl EK.u8 (List.take ((Int.toNat (((List.length (List.take ((Int.toNat (w64 ((64 : Int) * (w64 (t16 + (1 : Int)))))) - (Int.toNat (w64 ((64 : Int) * t16)))) (List.drop (Int.toNat (w64 ((64 : Int) * t16))) sig))) : Nat) : Int)) - (Int.toNat (32 : Int))) (List.drop (Int.toNat (32 : Int)) (List.take ((Int.toNat (w64 ((64 : Int) * (w64 (t16 + (1 : Int)))))) - (Int.toNat (w64 ((64 : Int) * t16)))) (List.drop (Int.toNat (w64 ((64 : Int) * t16))) sig)))))))) * (1 : Nat)) ≤ (70368744177664 : Nat)) ∧ ((List.length ((all ++ (PV.slv EK.u8 (PV.sl EK.u8 (List.take ((Int.toNat (32 : Int)) - (Int.toNat (0 : Int))) (List.drop (Int.toNat (0 : Int)) (Vector.toList (shaSum (List.take ((Int.toNat (32 : Int)) - (Int.toNat (0 : Int))) (List.drop (Int.toNat (0 : Int)) (List.take ((Int.toNat (w64 ((64 : Int) * (w64 (t16 + (1 : Int)))))) - (Int.toNat (w64 ((64 : Int) * t16)))) (List.drop (Int.toNat (w64 ((64 : Int) * t16))) sig))))))))))) ++ (PV.slv EK.u8 (PV.sl EK.u8 (List.take ((Int.toNat (((List.length (List.take ((Int.toNat (w64 ((64 : Int) * (w64 (t16 + (1 : Int)))))) - (Int.toNat (w64 ((64 : Int) * t16)))) (List.drop (Int.toNat (w64 ((64 : Int) * t16))) sig))) : Nat) : Int)) - (Int.toNat (32 : Int))) (List.drop (Int.toNat (32 : Int)) (List.take ((Int.toNat (w64 ((64 : Int) * (w64 (t16 + (1 : Int)))))) - (Int.toNat (w64 ((64 : Int) * t16)))) (List.drop (Int.toNat (w64 ((64 : Int) * t16))) sig)))))))) ≤ (70368744177664 : Nat)) then
                        lamp_Check_h0 k sig (w64 (t16 + (1 : Int))) key digest ((all ++ (PV.slv EK.u8 (PV.sl EK.u8 (List.take ((Int.toNat (32 : Int)) - (Int.toNat (0 : Int))) (List.drop (Int.toNat (0 : Int)) (Vector.toList (shaSum (List.take ((Int.toNat (32 : Int)) - (Int.toNat (0 : Int))) (List.drop (Int.toNat (0 : Int)) (List.take ((Int.toNat (w64 ((64 : Int) * (w64 (t16 + (1 : Int)))))) - (Int.toNat (w64 ((64 : Int) * t16)))) (List.drop (Int.toNat (w64 ((64 : Int) * t16))) sig))))))))))) ++ (PV.slv EK.u8 (PV.sl EK.u8 (List.take ((Int.toNat (((List.length (List.take ((Int.toNat (w64 ((64 : Int) * (w64 (t16 + (1 : Int)))))) - (Int.toNat (w64 ((64 : Int) * t16)))) (List.drop (Int.toNat (w64 ((64 : Int) * t16))) sig))) : Nat) : Int)) - (Int.toNat (32 : Int))) (List.drop (Int.toNat (32 : Int)) (List.take ((Int.toNat (w64 ((64 : Int) * (w64 (t16 + (1 : Int)))))) - (Int.toNat (w64 ((64 : Int) * t16)))) (List.drop (Int.toNat (w64 ((64 : Int) * t16))) sig)))))))
                      else none
                    else none
                  else none
                else none)
                else (bif decide ((bitV digest (UInt8.ofInt t16)) = (1 : UInt8)) then (if (TY.chk (TY.sl EK.u8) (PV.sl EK.u8 (List.take ((Int.toNat (((List.length (List.take ((Int.toNat (w64 ((64 : Int) * (w64 (t16 + (1 : Int)))))) - (Int.toNat (w64 ((64 : Int) * t16)))) (List.drop (Int.toNat (w64 ((64 : Int) * t16))) sig))) : Nat) : Int)) - (Int.toNat (32 : Int))) (List.drop (Int.toNat (32 : Int)) (List.take ((Int.toNat (w64 ((64 : Int) * (w64 (t16 + (1 : Int)))))) - (Int.toNat (w64 ((64 : Int) * t16)))) (List.drop (Int.toNat (w64 ((64 : Int) * t16))) sig)))))) = true then
                    if (((List.length (all ++ (PV.slv EK.u8 (PV.sl EK.u8 (List.take ((Int.toNat (((List.length (List.take ((Int.toNat (w64 ((64 : Int) * (w64 (t16 + (1 : Int)))))) - (Int.toNat (w64 ((64 : Int) * t16)))) (List.drop (Int.toNat (w64 ((64 : Int) * t16))) sig))) : Nat) : Int)) - (Int.toNat (32 : Int))) (List.drop (Int.toNat (32 : Int)) (List.take ((Int.toNat (w64 ((64 : Int) * (w64 (t16 + (1 : Int)))))) - (Int.toNat (w64 ((64 : Int) * t16)))) (List.drop (Int.toNat (w64 ((64 : Int) * t16))) sig)))))))) * (1 : Nat)) ≤ (70368744177664 : Nat)) ∧ ((List.length (all ++ (PV.slv EK.u8 (PV.sl EK.u8 (List.take ((Int.toNat (((List.length (List.take ((Int.toNat (w64 ((64 : Int) * (w64 (t16 + (1 : Int)))))) - (Int.toNat (w64 ((64 : Int) * t16)))) (List.drop (Int.toNat (w64 ((64 : Int) * t16))) sig))) : Nat) : Int)) - (Int.toNat (32 : Int))) (List.drop (Int.toNat (32 : Int)) (List.take ((Int.toNat (w64 ((64 : Int) * (w64 (t16 + (1 : Int)))))) - (Int.toNat (w64 ((64 : Int) * t16)))) (List.drop (Int.toNat (w64 ((64 : Int) * t16))) sig)))))))) ≤ (70368744177664 : Nat)) then
                      if (TY.chk (TY.sl EK.u8) (PV.sl EK.u8 (List.take ((Int.toNat (32 : Int)) - (Int.toNat (0 : Int))) (List.drop (Int.toNat (0 : Int)) (Vector.toList (shaSum (List.take ((Int.toNat (32 : Int)) - (Int.toNat (0 : Int))) (List.drop (Int.toNat (0 : Int)) (List.take ((Int.toNat (w64 ((64 : Int) * (w64 (t16 + (1 : Int)))))) - (Int.toNat (w64 ((64 : Int) * t16)))) (List.drop (Int.toNat (w64 ((64 : Int) * t16))) sig)))))))))) = true then
                        if (((List.length ((all ++ (PV.slv EK.u8 (PV.sl EK.u8 (List.take ((Int.toNat (((List.length (List.take ((Int.toNat (w64 ((64 : Int) * (w64 (t16 + (1 : Int)))))) - (Int.toNat (w64 ((64 : Int) * t16)))) (List.drop (Int.toNat (w64 ((64 : Int) * t16))) sig))) : Nat) : Int)) - (Int.toNat (32 : Int))) (List.drop (Int.toNat (32 : Int)) (List.take ((Int.toNat (w64 ((64 : Int) * (w64 (t16 + (1 : Int)))))) - (Int.toNat (w64 ((64 : Int) * t16)))) (List.drop (Int.toNat (w64 ((64 : Int) * t16))) sig))))))) ++ (PV.slv EK.u8 (PV.sl EK.u8 (List.take ((Int.toNat (32 : Int)) - (Int.toNat (0 : Int))) (List.drop (Int.toNat (0 : Int)) (Vector.toList (shaSum (List.take ((Int.toNat (32 : Int)) - (Int.toNat (0 : Int))) (List.drop (Int.toNat (0 : Int)) (List.take ((Int.toNat (w64 ((64 : Int) * (w64 (t16 + (1 : Int)))))) - (Int.toNat (w64 ((64 : Int) * t16)))) (List.drop (Int.toNat (w64 ((64 : Int) * t16))) sig)))))))))))) * (1 : Nat)) ≤ (70368744177664 : Nat)) ∧ ((List.length ((all ++ (PV.slv EK.u8 (PV.sl EK.u8 (List.take ((Int.toNat (((List.length (List.take ((Int.toNat (w64 ((64 : Int) * (w64 (t16 + (1 : Int)))))) - (Int.toNat (w64 ((64 : Int) * t16)))) (List.drop (Int.toNat (w64 ((64 : Int) * t16))) sig))) : Nat) : Int)) - (Int.toNat (32 : Int))) (List.drop (Int.toNat (32 : Int)) (List.take ((Int.toNat (w64 ((64 : Int) * (w64 (t16 + (1 : Int)))))) - (Int.toNat (w64 ((64 : Int) * t16)))) (List.drop (Int.toNat (w64 ((64 : Int) * t16))) sig))))))) ++ (PV.slv EK.u8 (PV.sl EK.u8 (List.take ((Int.toNat (32 : Int)) - (Int.toNat (0 : Int))) (List.drop (Int.toNat (0 : Int)) (Vector.toList (shaSum (List.take ((Int.toNat (32 : Int)) - (Int.toNat (0 : Int))) (List.drop (Int.toNat (0 : Int)) (List.take ((Int.toNat (w64 ((64 : Int) * (w64 (t16 + (1 : Int)))))) - (Int.toNat (w64 ((64 : Int) * t16)))) (List.drop (Int.toNat (w64 ((64 : Int) * t16))) sig)))))))))))) ≤ (70368744177664 : Nat)) then
                          lamp_Check_h0 k sig (w64 (t16 + (1 : Int))) key digest ((all ++ (PV.slv EK.u8 (PV.sl EK.u8 (List.take ((Int.toNat (((List.length (List.take ((Int.toNat (w64 ((64 : Int) * (w64 (t16 + (1 : Int)))))) - (Int.toNat (w64 ((64 : Int) * t16)))) (List.drop (Int.toNat (w64 ((64 : Int) * t16))) sig))) : Nat) : Int)) - (Int.toNat (32 : Int))) (List.drop (Int.toNat (32 : Int)) (List.take ((Int.toNat (w64 ((64 : Int) * (w64 (t16 + (1 : Int)))))) - (Int.toNat (w64 ((64 : Int) * t16)))) (List.drop (Int.toNat (w64 ((64 : Int) * t16))) sig))))))) ++ (PV.slv EK.u8 (PV.sl EK.u8 (List.take ((Int.toNat (32 : Int)) - (Int.toNat (0 : Int))) (List.drop (Int.toNat (0 : Int)) (Vector.toList (shaSum (List.take ((Int.toNat (32 : Int)) - (Int.toNat (0 : Int))) (List.drop (Int.toNat (0 : Int)) (List.take ((Int.toNat (w64 ((64 : Int) * (w64 (t16 + (1 : Int)))))) - (Int.toNat (w64 ((64 : Int) * t16)))) (List.drop (Int.toNat (w64 ((64 : Int) * t16))) sig)))))))))))
                        else none
                      else none
                    else none
                  else none)
                  else (none))
            else none
          else none
        else none
      else none)
      else (if (List.length all) ≤ (1099511627776 : Nat) then
        bif !(decide ((Vector.toList (shaSum all)) = (Vector.toList key))) then (some (5 : Int))
          else (some (0 : Int))
      else none)
theorem lamp_Check_h0_q (k : Nat) (sig : List UInt8) (t16 : Int) (key : Vector UInt8 32) (digest : Vector UInt8 32) (all : List UInt8) : lamp_Check_h0 (k + 1) sig t16 key digest all =
  (bif decide (t16 < (32 : Int)) then (if ((0 : Int) ≤ (w64 ((64 : Int) * t16))) ∧ (((w64 ((64 : Int) * t16)) ≤ (w64 ((64 : Int) * (w64 (t16 + (1 : Int)))))) ∧ ((w64 ((64 : Int) * (w64 (t16 + (1 : Int))))) ≤ (((List.length sig) : Nat) : Int))) then
        if ((0 : Int) ≤ (0 : Int)) ∧ (((0 : Int) ≤ (32 : Int)) ∧ ((32 : Int) ≤ (((List.length (List.take ((Int.toNat (w64 ((64 : Int) * (w64 (t16 + (1 : Int)))))) - (Int.toNat (w64 ((64 : Int) * t16)))) (List.drop (Int.toNat (w64 ((64 : Int) * t16))) sig))) : Nat) : Int))) then
          if (List.length (List.take ((Int.toNat (32 : Int)) - (Int.toNat (0 : Int))) (List.drop (Int.toNat (0 : Int)) (List.take ((Int.toNat (w64 ((64 : Int) * (w64 (t16 + (1 : Int)))))) - (Int.toNat (w64 ((64 : Int) * t16)))) (List.drop (Int.toNat (w64 ((64 : Int) * t16))) sig))))) ≤ (1099511627776 : Nat) then
            if ((0 : Int) ≤ (32 : Int)) ∧ (((32 : Int) ≤ (((List.length (List.take ((Int.toNat (w64 ((64 : Int) * (w64 (t16 + (1 : Int)))))) - (Int.toNat (w64 ((64 : Int) * t16)))) (List.drop (Int.toNat (w64 ((64 : Int) * t16))) sig))) : Nat) : Int)) ∧ ((((List.length (List.take ((Int.toNat (w64 ((64 : Int) * (w64 (t16 + (1 : Int)))))) - (Int.toNat (w64 ((64 : Int) * t16)))) (List.drop (Int.toNat (w64 ((64 : Int) * t16))) sig))) : Nat) : Int) ≤ (((List.length (List.take ((Int.toNat (w64 ((64 : Int) * (w64 (t16 + (1 : Int)))))) - (Int.toNat (w64 ((64 : Int) * t16)))) (List.drop (Int.toNat (w64 ((64 : Int) * t16))) sig))) : Nat) : Int))) then
              bif decide ((bitV digest (UInt8.ofInt t16)) = (0 : UInt8)) then (if (TY.chk (TY.sl EK.u8) (PV.sl EK.u8 (List.take ((Int.toNat (32 : Int)) - (Int.toNat (0 : Int))) (List.drop (Int.toNat (0 : Int)) (Vector.toList (shaSum (List.take ((Int.toNat (32 : Int)) - (Int.toNat (0 : Int))) (List.drop (Int.toNat (0 : Int)) (List.take ((Int.toNat (w64 ((64 : Int) * (w64 (t16 + (1 : Int)))))) - (Int.toNat (w64 ((64 : Int) * t16)))) (List.drop (Int.toNat (w64 ((64 : Int) * t16))) sig)))))))))) = true then
                  if (((List.length (all ++ (PV.slv EK.u8 (PV.sl EK.u8 (List.take ((Int.toNat (32 : Int)) - (Int.toNat (0 : Int))) (List.drop (Int.toNat (0 : Int)) (Vector.toList (shaSum (List.take ((Int.toNat (32 : Int)) - (Int.toNat (0 : Int))) (List.drop (Int.toNat (0 : Int)) (List.take ((Int.toNat (w64 ((64 : Int) * (w64 (t16 + (1 : Int)))))) - (Int.toNat (w64 ((64 : Int) * t16)))) (List.drop (Int.toNat (w64 ((64 : Int) * t16))) sig)))))))))))) * (1 : Nat)) ≤ (70368744177664 : Nat)) ∧ ((List.length (all ++ (PV.slv EK.u8 (PV.sl EK.u8 (List.take ((Int.toNat (32 : Int)) - (Int.toNat (0 : Int))) (List.drop (Int.toNat (0 : Int)) (Vector.toList (shaSum (List.take ((Int.toNat (32 : Int)) - (Int.toNat (0 : Int))) (List.drop (Int.toNat (0 : Int)) (List.take ((Int.toNat (w64 ((64 : Int) * (w64 (t16 + (1 : Int)))))) - (Int.toNat (w64 ((64 : Int) * t16)))) (List.drop (Int.toNat (w64 ((64 : Int) * t16))) sig)))))))))))) ≤ (70368744177664 : Nat)) then
                    if (TY.chk (TY.sl EK.u8) (PV.sl EK.u8 (List.take ((Int.toNat (((List.length (List.take ((Int.toNat (w64 ((64 : Int) * (w64 (t16 + (1 : Int)))))) - (Int.toNat (w64 ((64 : Int) * t16)))) (List.drop (Int.toNat (w64 ((64 : Int) * t16))) sig))) : Nat) : Int)) - (Int.toNat (32 : Int))) (List.drop (Int.toNat (32 : Int)) (List.take ((Int.toNat (w64 ((64 : Int) * (w64 (t16 + (1 : Int)))))) - (Int.toNat (w64 ((64 : Int) * t16)))) (List.drop (Int.toNat (w64 ((64 : Int) * t16))) sig)))))) = true then
                      if (((List.length ((all ++ (PV.slv EK.u8 (PV.sl EK.u8 (List.take ((Int.toNat (32 : Int)) - (Int.toNat (0 : Int))) (List.drop (Int.toNat (0 : Int)) (Vector.toList (shaSum (List.take ((Int.toNat (32 : Int)) - (Int.toNat (0 : Int))) (List.drop (Int.toNat (0 : Int)) (List.take ((Int.toNat (w64 ((64 : Int) * (w64 (t16 + (1 : Int)))))) - (Int.toNat (w64 ((64 : Int) * t16)))) (List.drop (Int.toNat (w64 ((64 : Int) * t16))) sig))))))))))) ++ (PV.slv EK.u8 (PV.sl EK.u8 (List.take ((Int.toNat (((List.length (List.take ((Int.toNat (w64 ((64 : Int) * (w64 (t16 + (1 : Int)))))) - (Int.toNat (w64 ((64 : Int) * t16)))) (List.drop (Int.toNat (w64 ((64 : Int) * t16))) sig))) : Nat) : Int)) - (Int.toNat (32 : Int))) (List.drop (Int.toNat (32 : Int)) (List.take ((Int.toNat (w64 ((64 : Int) * (w64 (t16 + (1 : Int)))))) - (Int.toNat (w64 ((64 : Int) * t16)))) (List.drop (Int.toNat (w64 ((64 : Int) * t16))) sig)))))))) * (1 : Nat)) ≤ (70368744177664 : Nat)) ∧ ((List.length ((all ++ (PV.slv EK.u8 (PV.sl EK.u8 (List.take ((Int.toNat (32 : Int)) - (Int.toNat (0 : Int))) (List.drop (Int.toNat (0 : Int)) (Vector.toList (shaSum (List.take ((Int.toNat (32 : Int)) - (Int.toNat (0 : Int))) (List.drop (Int.toNat (0 : Int)) (List.take ((Int.toNat (w64 ((64 : Int) * (w64 (t16 + (1 : Int)))))) - (Int.toNat (w64 ((64 : Int) * t16)))) (List.drop (Int.toNat (w64 ((64 : Int) * t16))) sig))))))))))) ++ (PV.slv EK.u8 (PV.sl EK.u8 (List.take ((Int.toNat (((List.length (List.take ((Int.toNat (w64 ((64 : Int) * (w64 (t16 + (1 : Int)))))) - (Int.toNat (w64 ((64 : Int) * t16)))) (List.drop (Int.toNat (w64 ((64 : Int) * t16))) sig))) : Nat) : Int)) - (Int.toNat (32 : Int))) (List.drop (Int.toNat (32 : Int)) (List.take ((Int.toNat (w64 ((64 : Int) * (w64 (t16 + (1 : Int)))))) - (Int.toNat (w64 ((64 : Int) * t16)))) (List.drop (Int.toNat (w64 ((64 : Int) * t16))) sig)))))))) ≤ (70368744177664 : Nat)) then
                        lamp_Check_h0 k sig (w64 (t16 + (1 : Int))) key digest ((all ++ (PV.slv EK.u8 (PV.sl EK.u8 (List.take ((Int.toNat (32 : Int)) - (Int.toNat (0 : Int))) (List.drop (Int.toNat (0 : Int)) (Vector.toList (shaSum (List.take ((Int.toNat (32 : Int)) - (Int.toNat (0 : Int))) (List.drop (Int.toNat (0 : Int)) (List.take ((Int.toNat (w64 ((64 : Int) * (w64 (t16 + (1 : Int)))))) - (Int.toNat (w64 ((64 : Int) * t16)))) (List.drop (Int.toNat (w64 ((64 : Int) * t16))) sig))))))))))) ++ (PV.slv EK.u8 (PV.sl EK.u8 (List.take ((Int.toNat (((List.length (List.take ((Int.toNat (w64 ((64 : Int) * (w64 (t16 + (1 : Int)))))) - (Int.toNat (w64 ((64 : Int) * t16)))) (List.drop (Int.toNat (w64 ((64 : Int) * t16))) sig))) : Nat) : Int)) - (Int.toNat (32 : Int))) (List.drop (Int.toNat (32 : Int)) (List.take ((Int.toNat (w64 ((64 : Int) * (w64 (t16 + (1 : Int)))))) - (Int.toNat (w64 ((64 : Int) * t16)))) (List.drop (Int.toNat (w64 ((64 : Int) * t16))) sig)))))))
                      else none
                    else none
                  else none
                else none)
                else (bif decide ((bitV digest (UInt8.ofInt t16)) = (1 : UInt8)) then (if (TY.chk (TY.sl EK.u8) (PV.sl EK.u8 (List.take ((Int.toNat (((List.length (List.take ((Int.toNat (w64 ((64 : Int) * (w64 (t16 + (1 : Int)))))) - (Int.toNat (w64 ((64 : Int) * t16)))) (List.drop (Int.toNat (w64 ((64 : Int) * t16))) sig))) : Nat) : Int)) - (Int.toNat (32 : Int))) (List.drop (Int.toNat (32 : Int)) (List.take ((Int.toNat (w64 ((64 : Int) * (w64 (t16 + (1 : Int)))))) - (Int.toNat (w64 ((64 : Int) * t16)))) (List.drop (Int.toNat (w64 ((64 : Int) * t16))) sig)))))) = true then
                    if (((List.length (all ++ (PV.slv EK.u8 (PV.sl EK.u8 (List.take ((Int.toNat (((List.length (List.take ((Int.toNat (w64 ((64 : Int) * (w64 (t16 + (1 : Int)))))) - (Int.toNat (w64 ((64 : Int) * t16)))) (List.drop (Int.toNat (w64 ((64 : Int) * t16))) sig))) : Nat) : Int)) - (Int.toNat (32 : Int))) (List.drop (Int.toNat (32 : Int)) (List.take ((Int.toNat (w64 ((64 : Int) * (w64 (t16 + (1 : Int)))))) - (Int.toNat (w64 ((64 : Int) * t16)))) (List.drop (Int.toNat (w64 ((64 : Int) * t16))) sig)))))))) * (1 : Nat)) ≤ (70368744177664 : Nat)) ∧ ((List.length (all ++ (PV.slv EK.u8 (PV.sl EK.u8 (List.take ((Int.toNat (((List.length (List.take ((Int.toNat (w64 ((64 : Int) * (w64 (t16 + (1 : Int)))))) - (Int.toNat (w64 ((64 : Int) * t16)))) (List.drop (Int.toNat (w64 ((64 : Int) * t16))) sig))) : Nat) : Int)) - (Int.toNat (32 : Int))) (List.drop (Int.toNat (32 : Int)) (List.take ((Int.toNat (w64 ((64 : Int) * (w64 (t16 + (1 : Int)))))) - (Int.toNat (w64 ((64 : Int) * t16)))) (List.drop (Int.toNat (w64 ((64 : Int) * t16))) sig)))))))) ≤ (70368744177664 : Nat)) then
                      if (TY.chk (TY.sl EK.u8) (PV.sl EK.u8 (List.take ((Int.toNat (32 : Int)) - (Int.toNat (0 : Int))) (List.drop (Int.toNat (0 : Int)) (Vector.toList (shaSum (List.take ((Int.toNat (32 : Int)) - (Int.toNat (0 : Int))) (List.drop (Int.toNat (0 : Int)) (List.take ((Int.toNat (w64 ((64 : Int) * (w64 (t16 + (1 : Int)))))) - (Int.toNat (w64 ((64 : Int) * t16)))) (List.drop (Int.toNat (w64 ((64 : Int) * t16))) sig)))))))))) = true then
                        if (((List.length ((all ++ (PV.slv EK.u8 (PV.sl EK.u8 (List.take ((Int.toNat (((List.length (List.take ((Int.toNat (w64 ((64 : Int) * (w64 (t16 + (1 : Int)))))) - (Int.toNat (w64 ((64 : Int) * t16)))) (List.drop (Int.toNat (w64 ((64 : Int) * t16))) sig))) : Nat) : Int)) - (Int.toNat (32 : Int))) (List.drop (Int.toNat (32 : Int)) (List.take ((Int.toNat (w64 ((64 : Int) * (w64 (t16 + (1 : Int)))))) - (Int.toNat (w64 ((64 : Int) * t16)))) (List.drop (Int.toNat (w64 ((64 : Int) * t16))) sig))))))) ++ (PV.slv EK.u8 (PV.sl EK.u8 (List.take ((Int.toNat (32 : Int)) - (Int.toNat (0 : Int))) (List.drop (Int.toNat (0 : Int)) (Vector.toList (shaSum (List.take ((Int.toNat (32 : Int)) - (Int.toNat (0 : Int))) (List.drop (Int.toNat (0 : Int)) (List.take ((Int.toNat (w64 ((64 : Int) * (w64 (t16 + (1 : Int)))))) - (Int.toNat (w64 ((64 : Int) * t16)))) (List.drop (Int.toNat (w64 ((64 : Int) * t16))) sig)))))))))))) * (1 : Nat)) ≤ (70368744177664 : Nat)) ∧ ((List.length ((all ++ (PV.slv EK.u8 (PV.sl EK.u8 (List.take ((Int.toNat (((List.length (List.take ((Int.toNat (w64 ((64 : Int) * (w64 (t16 + (1 : Int)))))) - (Int.toNat (w64 ((64 : Int) * t16)))) (List.drop (Int.toNat (w64 ((64 : Int) * t16))) sig))) : Nat) : Int)) - (Int.toNat (32 : Int))) (List.drop (Int.toNat (32 : Int)) (List.take ((Int.toNat (w64 ((64 : Int) * (w64 (t16 + (1 : Int)))))) - (Int.toNat (w64 ((64 : Int) * t16)))) (List.drop (Int.toNat (w64 ((64 : Int) * t16))) sig))))))) ++ (PV.slv EK.u8 (PV.sl EK.u8 (List.take ((Int.toNat (32 : Int)) - (Int.toNat (0 : Int))) (List.drop (Int.toNat (0 : Int)) (Vector.toList (shaSum (List.take ((Int.toNat (32 : Int)) - (Int.toNat (0 : Int))) (List.drop (Int.toNat (0 : Int)) (List.take ((Int.toNat (w64 ((64 : Int) * (w64 (t16 + (1 : Int)))))) - (Int.toNat (w64 ((64 : Int) * t16)))) (List.drop (Int.toNat (w64 ((64 : Int) * t16))) sig)))))))))))) ≤ (70368744177664 : Nat)) then
                          lamp_Check_h0 k sig (w64 (t16 + (1 : Int))) key digest ((all ++ (PV.slv EK.u8 (PV.sl EK.u8 (List.take ((Int.toNat (((List.length (List.take ((Int.toNat (w64 ((64 : Int) * (w64 (t16 + (1 : Int)))))) - (Int.toNat (w64 ((64 : Int) * t16)))) (List.drop (Int.toNat (w64 ((64 : Int) * t16))) sig))) : Nat) : Int)) - (Int.toNat (32 : Int))) (List.drop (Int.toNat (32 : Int)) (List.take ((Int.toNat (w64 ((64 : Int) * (w64 (t16 + (1 : Int)))))) - (Int.toNat (w64 ((64 : Int) * t16)))) (List.drop (Int.toNat (w64 ((64 : Int) * t16))) sig))))))) ++ (PV.slv EK.u8 (PV.sl EK.u8 (List.take ((Int.toNat (32 : Int)) - (Int.toNat (0 : Int))) (List.drop (Int.toNat (0 : Int)) (Vector.toList (shaSum (List.take ((Int.toNat (32 : Int)) - (Int.toNat (0 : Int))) (List.drop (Int.toNat (0 : Int)) (List.take ((Int.toNat (w64 ((64 : Int) * (w64 (t16 + (1 : Int)))))) - (Int.toNat (w64 ((64 : Int) * t16)))) (List.drop (Int.toNat (w64 ((64 : Int) * t16))) sig)))))))))))
                        else none
                      else none
                    else none
                  else none)
                  else (none))
            else none
          else none
        else none
      else none)
      else (if (List.length all) ≤ (1099511627776 : Nat) then
        bif !(decide ((Vector.toList (shaSum all)) = (Vector.toList key))) then (some (5 : Int))
          else (some (0 : Int))
      else none)) := by kernel_rfl
/-- moneyer/lamp.Check -/
def lamp_Check (k : Nat) (key : Vector UInt8 32) (digest : Vector UInt8 32) (sig : List UInt8) : Option (Int) :=
  bif !(decide ((((List.length sig) : Nat) : Int) = (2048 : Int))) then (some (5 : Int))
    else (lamp_Check_h0 k sig (0 : Int) key digest ([] : List UInt8))
theorem lamp_Check_q (k : Nat) (key : Vector UInt8 32) (digest : Vector UInt8 32) (sig : List UInt8) : lamp_Check k key digest sig = (bif !(decide ((((List.length sig) : Nat) : Int) = (2048 : Int))) then (some (5 : Int))
    else (lamp_Check_h0 k sig (0 : Int) key digest ([] : List UInt8))) := by kernel_rfl
theorem lamp_Check_spec (key d : Vector UInt8 32) (sig : List UInt8) : Ev (fun k => lamp_Check k key d sig) (checkV key d sig) := by
  refine Ev.same (fun k => lamp_Check_q k key d sig) ?_
  rw [checkV_eq]
  by_cases hl : sig.length = 2048
  · rw [if_pos hl]
    have hb : (!(decide ((((List.length sig) : Nat) : Int) = (2048 : Int)))) = false := by rw [decide_eq_true (by omega)]; rfl
    refine Ev.same (g := fun k => lamp_Check_h0 k sig ((0 : Nat) : Int) key d (chkB d sig 0)) (fun k => by rw [hb]; rfl) ?_
    refine Ev.rise (n := 32) (H := fun k i s => lamp_Check_h0 k sig i key d s) (chkB d sig) (fun i hi ih => ?_) ?_ 32 0 (by omega)
    · refine Ev.step (fun k => ?_) ih
      have w1 : w64 ((64 : Int) * (i : Int)) = ((64 * i : Nat) : Int) := by rw [w64_id (by omega) (by omega)]; omega
      have w0 : w64 ((i : Int) + 1) = ((i + 1 : Nat) : Int) := by rw [w64_id (by omega) (by omega)]; omega
      have w2 : w64 ((64 : Int) * ((i + 1 : Nat) : Int)) = ((64 * i + 64 : Nat) : Int) := by rw [w64_id (by omega) (by omega)]; omega
      have e1 : List.take (64 * i + 64 - 64 * i) (List.drop (64 * i) sig) = partL sig i := by rw [partL, Nat.add_sub_cancel_left]
      have hp := partL_len hl hi
      have e2 : List.take (Int.toNat (32 : Int) - Int.toNat (0 : Int)) (List.drop (Int.toNat (0 : Int)) (partL sig i)) = (partL sig i).take 32 := rfl
      have e3 : List.take ((64 : Nat) - Int.toNat (32 : Int)) (List.drop (Int.toNat (32 : Int)) (partL sig i)) = (partL sig i).drop 32 := by
        show List.take 32 (List.drop 32 (partL sig i)) = _
        exact List.take_of_length_le (by rw [List.length_drop, hp]; decide)
      have e4 : ∀ x, List.take (Int.toNat (32 : Int) - Int.toNat (0 : Int)) (List.drop (Int.toNat (0 : Int)) (Vector.toList (shaSum x))) = hL x := fun x => by rw [td32, hL_eq]
      have e5 : ∀ x : List UInt8, PV.slv .u8 (.sl .u8 x) = x := fun _ => rfl
      have e6 : ∀ x : List UInt8, TY.chk (TY.sl EK.u8) (PV.sl EK.u8 x) = true := fun _ => rfl
      have hc := chkB_len (d := d) hl (k := i) (by omega)
      have hs : chkB d sig (i + 1) = chkB d sig i ++ pairB d sig i := rfl
      show lamp_Check_h0 (k + 1) sig (i : Int) key d (chkB d sig i) = lamp_Check_h0 k sig ((i : Int) + 1) key d (chkB d sig (i + 1))
      rw [lamp_Check_h0_q, bif_pos (by omega)]
      simp only [w0, w1, w2, Int.toNat_natCast, e1, hp, e2, e3, e4, e5, e6, u8_ofInt]
      have lt : (List.take 32 (partL sig i)).length = 32 := by rw [List.length_take, hp]; rfl
      have ld : (List.drop 32 (partL sig i)).length = 32 := by rw [List.length_drop, hp]
      have q1 : (chkB d sig i ++ hL ((partL sig i).take 32)).length = 64 * i + 32 := by rw [List.length_append, hc, hL_len]
      have q2 : (chkB d sig i ++ (partL sig i).drop 32).length = 64 * i + 32 := by rw [List.length_append, hc, ld]
      have q3 : (chkB d sig i ++ hL ((partL sig i).take 32) ++ (partL sig i).drop 32).length = 64 * i + 64 := by rw [List.length_append, q1, ld]
      have q4 : (chkB d sig i ++ (partL sig i).drop 32 ++ hL ((partL sig i).take 32)).length = 64 * i + 64 := by rw [List.length_append, q2, hL_len]
      rw [lt, q1, q2, q3, q4, hs, Int.natCast_add]
      rw [if_pos ⟨by omega, by omega, by omega⟩, if_pos ⟨by omega, by omega, by omega⟩, if_pos (by omega), if_pos ⟨by omega, by omega, by omega⟩]
      rcases bitV_01 d (UInt8.ofNat i) with hb | hb
      · have hpb : pairB d sig i = hL ((partL sig i).take 32) ++ (partL sig i).drop 32 := by rw [pairB, if_pos hb]
        rw [hb, decide_eq_true rfl, cond_true, if_pos trivial, if_pos ⟨by omega, by omega⟩, if_pos trivial, if_pos ⟨by omega, by omega⟩, hpb, List.append_assoc]
        rfl
      · have hpb : pairB d sig i = (partL sig i).drop 32 ++ hL ((partL sig i).take 32) := by rw [pairB, if_neg (by rw [hb]; decide)]
        rw [hb, decide_eq_false (by decide), cond_false, decide_eq_true rfl, cond_true, if_pos trivial, if_pos ⟨by omega, by omega⟩, if_pos trivial, if_pos ⟨by omega, by omega⟩, hpb, List.append_assoc]
        rfl
    · refine Ev.done fun k => ?_
      show lamp_Check_h0 (k + 1) sig ((32 : Nat) : Int) key d (chkB d sig 32) = _
      rw [lamp_Check_h0_q, bif_neg (by omega), if_pos (by rw [chkB_len hl (Nat.le_refl _)]; decide)]
      by_cases he : shaSum (chkB d sig 32) = key
      · rw [if_pos he, he, decide_eq_true rfl]; rfl
      · rw [if_neg he, decide_eq_false (fun h => he (Vector.toList_inj.1 h))]; rfl
  · rw [if_neg hl]
    refine Ev.done fun k => ?_
    rw [decide_eq_false (by omega)]; rfl

end
end Go.Proofs.YtkjillpcmffgoaaDoor.M

namespace Go.Proofs.YtkjillpcmffgoaaDoor.M
open Go
noncomputable section
set_option maxRecDepth 100000
set_option maxHeartbeats 0
noncomputable def lamp_secrets_T : Tbl := []
noncomputable def lamp_secrets_C : CfgW := mkC Tryd.prog theG lamp_secrets_T 4 0 false
def lamp_secrets_lv : Nat → List Nat := fun i => []
noncomputable abbrev lamp_secrets_b : Code := Tryd.f57.body.getD .skip
noncomputable abbrev lamp_secrets_r : List ResultVar := Tryd.f57.results.toList
def lamp_secrets_hs : List Nat := []

def lamp_secrets_enc (r : Vector UInt8 32) : CallOut := ⟨.fn 64 [.p 60000 []], [(60000, .box (.pv (.arr .u8 32 r)))], true, []⟩
theorem lamp_secrets_e (seed : Vector UInt8 32) (Q : CallOut → Prop) : evalFnP lamp_secrets_C lamp_secrets_lv lamp_secrets_r lamp_secrets_hs lamp_secrets_b [.pv (.arr .u8 32 seed)] [] Q =
    (Q (lamp_secrets_enc seed)) := by kernel_rfl
theorem lamp_secrets_w (seed : Vector UInt8 32) {Q : CallOut → Prop} (h : Q (lamp_secrets_enc (lamp_secrets seed))) : evalFnP lamp_secrets_C lamp_secrets_lv lamp_secrets_r lamp_secrets_hs lamp_secrets_b [.pv (.arr .u8 32 seed)] [] Q :=
  Eq.mpr (lamp_secrets_e seed Q) (have h := Eq.mp (congrArg (fun r => Q (lamp_secrets_enc r)) (lamp_secrets_q seed)) h; h)
def lamp_secrets_c : Ans
  | [.pv (.arr .u8 32 seed)], [] => some (none, lamp_secrets_enc (lamp_secrets seed))
  | _, _ => none
theorem lamp_secrets_tok : TblOK Tryd.prog theG lamp_secrets_T := .nil
theorem lamp_secrets_ok : FnOK Tryd.prog theG 57 (unW lamp_secrets_c) := by
  refine FnOK.ofC (T := lamp_secrets_T) (nt := 4) (np := 0) (mv := []) (nf := false) (hs := lamp_secrets_hs) (fn := Tryd.f57) (body := lamp_secrets_b) lamp_secrets_tok (by kernel_rfl) (by kernel_rfl) (by kernel_rfl) (by kernel_rfl) (c := lamp_secrets_c) (lv := lamp_secrets_lv) ?_
  intro xs mem p out h hp
  unfold lamp_secrets_c at h
  split at h
  · cases h
    exact lamp_secrets_w _ rfl
  · cases h
end
end Go.Proofs.YtkjillpcmffgoaaDoor.M

namespace Go.Proofs.YtkjillpcmffgoaaDoor.M
open Go
noncomputable section
set_option maxRecDepth 100000
set_option maxHeartbeats 0
noncomputable def lamp_Bit_T : Tbl := []
noncomputable def lamp_Bit_C : CfgW := mkC Tryd.prog theG lamp_Bit_T 15 0 false
def lamp_Bit_lv : Nat → List Nat := fun i => []
noncomputable abbrev lamp_Bit_b : Code := Tryd.f35.body.getD .skip
noncomputable abbrev lamp_Bit_r : List ResultVar := Tryd.f35.results.toList
def lamp_Bit_hs : List Nat := []

def lamp_Bit_enc (r : UInt8) : CallOut := ⟨.pv (.sc .u8 r), [], true, []⟩
theorem lamp_Bit_e (digest : Vector UInt8 32) (k_1 : UInt8) (Q : CallOut → Prop) : evalFnP lamp_Bit_C lamp_Bit_lv lamp_Bit_r lamp_Bit_hs lamp_Bit_b [.pv (.arr .u8 32 digest), .pv (.sc .u8 k_1)] [] Q =
    (((32 : UInt8) ≠ (0 : UInt8)) ∧ (((8 : UInt8) ≠ (0 : UInt8)) ∧ ((((0 : Int) ≤ (((UInt8.toNat ((k_1 % (32 : UInt8)) / (8 : UInt8))) : Nat) : Int)) ∧ ((((UInt8.toNat ((k_1 % (32 : UInt8)) / (8 : UInt8))) : Nat) : Int) < (32 : Int))) ∧ (((8 : UInt8) ≠ (0 : UInt8)) ∧ (Q (lamp_Bit_enc ((shr_u8 (List.getD (Vector.toList digest) (Int.toNat (((UInt8.toNat ((k_1 % (32 : UInt8)) / (8 : UInt8))) : Nat) : Int)) (0 : UInt8)) (UInt8.toNat ((k_1 % (32 : UInt8)) % (8 : UInt8)))) &&& (1 : UInt8)))))))) := by kernel_rfl
theorem lamp_Bit_w (digest : Vector UInt8 32) (k_1 : UInt8) {r} {Q : CallOut → Prop} (h : lamp_Bit digest k_1 = some r) (hQ : Q (lamp_Bit_enc r)) : evalFnP lamp_Bit_C lamp_Bit_lv lamp_Bit_r lamp_Bit_hs lamp_Bit_b [.pv (.arr .u8 32 digest), .pv (.sc .u8 k_1)] [] Q :=
  Eq.mpr (lamp_Bit_e digest k_1 Q) (have h := (lamp_Bit_q digest k_1).symm.trans h; ⟨by decide +kernel, ⟨by decide +kernel, ite_ok h fun hc0 h => ⟨by decide +kernel, ret_ok (Q := Q) (e := lamp_Bit_enc) h hQ⟩⟩⟩)
def lamp_Bit_c : Ans
  | [.pv (.arr .u8 32 digest), .pv (.sc .u8 k_1)], [] => some (none, lamp_Bit_enc (bitV digest k_1))
  | _, _ => none
theorem lamp_Bit_tok : TblOK Tryd.prog theG lamp_Bit_T := .nil
theorem lamp_Bit_ok : FnOK Tryd.prog theG 35 (unW lamp_Bit_c) := by
  refine FnOK.ofC (T := lamp_Bit_T) (nt := 15) (np := 0) (mv := []) (nf := false) (hs := lamp_Bit_hs) (fn := Tryd.f35) (body := lamp_Bit_b) lamp_Bit_tok (by kernel_rfl) (by kernel_rfl) (by kernel_rfl) (by kernel_rfl) (c := lamp_Bit_c) (lv := lamp_Bit_lv) ?_
  intro xs mem p out h hp
  unfold lamp_Bit_c at h
  split at h
  · cases h
    exact lamp_Bit_w _ _ (lamp_Bit_spec _ _) rfl
  · cases h
end
end Go.Proofs.YtkjillpcmffgoaaDoor.M



namespace Go.Proofs.YtkjillpcmffgoaaDoor.M
open Go
noncomputable section
/-- moneyer/lamp.Secret -/
def lamp_Secret (seed : Vector UInt8 32) (k_1 : UInt8) (v : UInt8) : Option (Vector UInt8 32) :=
  if ((((List.length ((List.take ((32 : Nat) - (Int.toNat (0 : Int))) (List.drop (Int.toNat (0 : Int)) (Vector.toList seed))) ++ ([k_1, v] : List UInt8))) * (1 : Nat)) ≤ (70368744177664 : Nat)) ∧ ((List.length ((List.take ((32 : Nat) - (Int.toNat (0 : Int))) (List.drop (Int.toNat (0 : Int)) (Vector.toList seed))) ++ ([k_1, v] : List UInt8))) ≤ (70368744177664 : Nat))) ∧ ((((32 : Nat) - (Int.toNat (0 : Int))) = ((32 : Nat) - (Int.toNat (0 : Int)))) ∧ ((0 : Nat) < (List.length ([k_1, v] : List UInt8)))) then
    if (List.length ((List.take ((32 : Nat) - (Int.toNat (0 : Int))) (List.drop (Int.toNat (0 : Int)) (Vector.toList seed))) ++ ([k_1, v] : List UInt8))) ≤ (1099511627776 : Nat) then
      some (shaSum ((List.take ((32 : Nat) - (Int.toNat (0 : Int))) (List.drop (Int.toNat (0 : Int)) (Vector.toList seed))) ++ ([k_1, v] : List UInt8)))
    else none
  else none
theorem lamp_Secret_q (seed : Vector UInt8 32) (k_1 : UInt8) (v : UInt8) : lamp_Secret seed k_1 v = (if ((((List.length ((List.take ((32 : Nat) - (Int.toNat (0 : Int))) (List.drop (Int.toNat (0 : Int)) (Vector.toList seed))) ++ ([k_1, v] : List UInt8))) * (1 : Nat)) ≤ (70368744177664 : Nat)) ∧ ((List.length ((List.take ((32 : Nat) - (Int.toNat (0 : Int))) (List.drop (Int.toNat (0 : Int)) (Vector.toList seed))) ++ ([k_1, v] : List UInt8))) ≤ (70368744177664 : Nat))) ∧ ((((32 : Nat) - (Int.toNat (0 : Int))) = ((32 : Nat) - (Int.toNat (0 : Int)))) ∧ ((0 : Nat) < (List.length ([k_1, v] : List UInt8)))) then
    if (List.length ((List.take ((32 : Nat) - (Int.toNat (0 : Int))) (List.drop (Int.toNat (0 : Int)) (Vector.toList seed))) ++ ([k_1, v] : List UInt8))) ≤ (1099511627776 : Nat) then
      some (shaSum ((List.take ((32 : Nat) - (Int.toNat (0 : Int))) (List.drop (Int.toNat (0 : Int)) (Vector.toList seed))) ++ ([k_1, v] : List UInt8)))
    else none
  else none) := by kernel_rfl
theorem lamp_Secret_spec (seed : Vector UInt8 32) (k_1 v : UInt8) : lamp_Secret seed k_1 v = some (secV seed k_1 v) := by
  have hl : (Vector.toList seed).length = 32 := by simp
  have e1 : List.take ((32 : Nat) - (Int.toNat (0 : Int))) (List.drop (Int.toNat (0 : Int)) (Vector.toList seed)) = Vector.toList seed := by
    simp only [Int.toNat_zero, List.drop_zero, Nat.sub_zero]
    exact List.take_of_length_le (by omega)
  rw [lamp_Secret_q, e1, secV_eq]
  have hl2 : (Vector.toList seed ++ [k_1, v]).length = 34 := by rw [List.length_append, hl]; rfl
  rw [hl2, if_pos (by simp), if_pos (by omega)]

end
end Go.Proofs.YtkjillpcmffgoaaDoor.M

namespace Go.Proofs.YtkjillpcmffgoaaDoor.M
open Go
noncomputable section
set_option maxRecDepth 100000
set_option maxHeartbeats 0
noncomputable def lamp_Secret_T : Tbl := [(19, [], sha_Sum_c)]
noncomputable def lamp_Secret_C : CfgW := mkC Tryd.prog theG lamp_Secret_T 13 0 false
def lamp_Secret_lv : Nat → List Nat := fun i => []
noncomputable abbrev lamp_Secret_b : Code := Tryd.f33.body.getD .skip
noncomputable abbrev lamp_Secret_r : List ResultVar := Tryd.f33.results.toList
def lamp_Secret_hs : List Nat := []

def lamp_Secret_enc (r : Vector UInt8 32) : CallOut := ⟨.pv (.arr .u8 32 r), [], true, []⟩
theorem lamp_Secret_e (seed : Vector UInt8 32) (k_1 : UInt8) (v : UInt8) (Q : CallOut → Prop) : evalFnP lamp_Secret_C lamp_Secret_lv lamp_Secret_r lamp_Secret_hs lamp_Secret_b [.pv (.arr .u8 32 seed), .pv (.sc .u8 k_1), .pv (.sc .u8 v)] [] Q =
    ((((0 : Int) ≤ (0 : Int)) ∧ (((0 : Int) ≤ (32 : Int)) ∧ (((32 : Int) ≤ (32 : Int)) ∧ ((32 : Int) ≤ (((32 : Nat) : Nat) : Int))))) ∧ ((((((List.length ((List.take ((32 : Nat) - (Int.toNat (0 : Int))) (List.drop (Int.toNat (0 : Int)) (Vector.toList seed))) ++ ([k_1, v] : List UInt8))) * (1 : Nat)) ≤ (70368744177664 : Nat)) ∧ ((List.length ((List.take ((32 : Nat) - (Int.toNat (0 : Int))) (List.drop (Int.toNat (0 : Int)) (Vector.toList seed))) ++ ([k_1, v] : List UInt8))) ≤ (70368744177664 : Nat))) ∧ ((((32 : Nat) - (Int.toNat (0 : Int))) = ((32 : Nat) - (Int.toNat (0 : Int)))) ∧ ((0 : Nat) < (List.length ([k_1, v] : List UInt8))))) ∧ (((List.length ((List.take ((32 : Nat) - (Int.toNat (0 : Int))) (List.drop (Int.toNat (0 : Int)) (Vector.toList seed))) ++ ([k_1, v] : List UInt8))) ≤ (1099511627776 : Nat)) ∧ (Q (lamp_Secret_enc (shaSum ((List.take ((32 : Nat) - (Int.toNat (0 : Int))) (List.drop (Int.toNat (0 : Int)) (Vector.toList seed))) ++ ([k_1, v] : List UInt8)))))))) := by kernel_rfl
theorem lamp_Secret_w (seed : Vector UInt8 32) (k_1 : UInt8) (v : UInt8) {r} {Q : CallOut → Prop} (h : lamp_Secret seed k_1 v = some r) (hQ : Q (lamp_Secret_enc r)) : evalFnP lamp_Secret_C lamp_Secret_lv lamp_Secret_r lamp_Secret_hs lamp_Secret_b [.pv (.arr .u8 32 seed), .pv (.sc .u8 k_1), .pv (.sc .u8 v)] [] Q :=
  Eq.mpr (lamp_Secret_e seed k_1 v Q) (have h := (lamp_Secret_q seed k_1 v).symm.trans h; ⟨by decide +kernel, ite_ok h fun hc0 h => ite_ok h fun hc1 h => ret_ok (Q := Q) (e := lamp_Secret_enc) h hQ⟩)
def lamp_Secret_c : Ans
  | [.pv (.arr .u8 32 seed), .pv (.sc .u8 k_1), .pv (.sc .u8 v)], [] => some (none, lamp_Secret_enc (secV seed k_1 v))
  | _, _ => none
theorem lamp_Secret_tok : TblOK Tryd.prog theG lamp_Secret_T := .cons ⟨by kernel_rfl, sha_Sum_ok⟩ (.nil)
theorem lamp_Secret_ok : FnOK Tryd.prog theG 33 (unW lamp_Secret_c) := by
  refine FnOK.ofC (T := lamp_Secret_T) (nt := 13) (np := 0) (mv := []) (nf := false) (hs := lamp_Secret_hs) (fn := Tryd.f33) (body := lamp_Secret_b) lamp_Secret_tok (by kernel_rfl) (by kernel_rfl) (by kernel_rfl) (by kernel_rfl) (c := lamp_Secret_c) (lv := lamp_Secret_lv) ?_
  intro xs mem p out h hp
  unfold lamp_Secret_c at h
  split at h
  · cases h
    exact lamp_Secret_w _ _ _ (lamp_Secret_spec _ _ _) rfl
  · cases h
end
end Go.Proofs.YtkjillpcmffgoaaDoor.M

namespace Go.Proofs.YtkjillpcmffgoaaDoor.M
open Go Go.RowKit
noncomputable section
set_option maxRecDepth 100000
set_option maxHeartbeats 1000000
/-! lamp.secrets$1: the pairs of secrets -/
def itl_T : Tbl := [(33, [], lamp_Secret_c)]
noncomputable def itl_C (np : Nat) : CfgW := mkC Tryd.prog theG itl_T 19 np
theorem itl_tok : TblOK Tryd.prog theG itl_T := .cons ⟨by kernel_rfl, lamp_Secret_ok⟩ .nil
noncomputable abbrev itl_b : Code := Tryd.f64.body.getD .skip
def itl_lv : Nat → List Nat := fun _ => []
/-- what is yielded -/
def encLamp (e : UInt8 × Vector UInt8 32 × Vector UInt8 32) : List PV := [.sc .u8 e.1, .ar 32 [.arr .u8 32 e.2.1, .arr .u8 32 e.2.2]]
def itLamp : ItT := fun gf args L => bif Nat.beq gf 64 then (match args with
  | [.p n []] => (match L n with
    | some (.box (.pv (.arr .u8 32 seed))) => some ([n], List.map encLamp (secL seed))
    | _ => none)
  | _ => none) else none

def regOps : Code → Array Oper
  | .region _ ops _ => ops
  | _ => #[]
-- the code's parts
noncomputable def itl_cA : Code := codeAt [false] itl_b
noncomputable def itl_l : Code := codeAt [true, false, false] itl_b
theorem itl_code : itl_b = .seq itl_cA (.block 0 (.loop itl_l)) := by kernel_rfl
noncomputable def itl_ops : Array Oper := regOps (codeAt [true, false, false, false] itl_l)
noncomputable def itl_cB : Code := codeAt [false] itl_l
noncomputable def itl_cD : Code := codeAt [true, true] itl_l
theorem itl_lcode : itl_l = .seq itl_cB (.seq (.block 1 (.seq (.region 3 itl_ops true) (.cond (.tmp 18) .ret .skip))) itl_cD) := by kernel_rfl
abbrev itl_seed (seed : Vector UInt8 32) : PV := .arr .u8 32 seed
abbrev itl_L (seed : Vector UInt8 32) : List (Nat × Blk) := [(60000, .box (.pv (.arr .u8 32 seed)))]
def itl_s (seed : Vector UInt8 32) (i : UInt8) : St := ⟨[(1, .p 60000 []), (3, .pv (.sc .u8 i))], itl_L seed⟩
theorem itl_A (seed : Vector UInt8 32) (X : Ex → Prop) (K : St → Prop) : evalP (itl_C 2) itl_lv 0 itl_cA ⟨[(1, .p 60000 [])], itl_L seed⟩ (itQ X [1, 3] K) = K (itl_s seed 0) := by kernel_rfl
theorem itl_B (seed : Vector UInt8 32) (i : UInt8) (X : Ex → Prop) (K : St → Prop) : evalP (itl_C 4) itl_lv 0 itl_cB (itl_s seed i) (itQ X [1, 3] K) = condP (decide (i < 32)) (K (itl_s seed i)) (X (.exit 0)) := by kernel_rfl
theorem itl_D (seed : Vector UInt8 32) (i : UInt8) (X : Ex → Prop) (K : St → Prop) : evalP (itl_C 2) itl_lv 0 itl_cD (itl_s seed i) (itQ X [1, 3] K) = K (itl_s seed (i + 1)) := by kernel_rfl
def itl_t (seed : Vector UInt8 32) (i : UInt8) : St := ⟨[(1, .p 60000 []), (3, .pv (.sc .u8 i)), (9, .pv (.sc .u8 i)), (16, .pv (.ar 32 [.arr .u8 32 (secV seed i 0), .arr .u8 32 (secV seed i 1)]))], itl_L seed⟩
theorem itl_R (seed : Vector UInt8 32) (i : UInt8) (K : St → Prop) : evalAnyP (itl_C 9) itl_ops ((itl_ops.toList.drop 1).take 8) 1 (itl_s seed i) [] (fun s log => condP (pairsB itl_ops itl_ops.size log) (canonP [1, 3, 9, 16] s K) False) = K (itl_t seed i) := by kernel_rfl

def opAt (ops : Array Oper) (i : Nat) : Oper := (ops[i]?).getD { dst := none, op := .move (.tmp 0), type := 0, pos := "", after := #[], guard := none }
theorem opAt_eq {ops : Array Oper} {i : Nat} (h : i < ops.size) : ops[i]? = some (opAt ops i) := by
  unfold opAt
  rw [Array.getElem?_eq_getElem h]; rfl
def lateB (ops : Array Oper) (m : Nat) : Bool := (List.range ops.size).all fun j => Nat.blt j m || (List.range m).all fun i => reach ops ops.size i j
theorem lateB_at {ops : Array Oper} {m : Nat} (h : lateB ops m = true) : ∀ j, m ≤ j → j < ops.size → ∀ i, i < m → ∃ n, reach ops n i j = true := by
  intro j h1 h2 i h3
  have := List.all_eq_true.1 h j (List.mem_range.2 h2)
  simp only [Bool.or_eq_true, Nat.blt_eq] at this
  rcases this with h4 | h4
  · omega
  · exact ⟨_, List.all_eq_true.1 h4 i (List.mem_range.2 h3)⟩
def chainB (ops : Array Oper) (m : Nat) : Bool := (List.range ops.size).all fun j => Nat.ble j m || (opAt ops j).after.toList.any fun ed => Region.binds .any ed && Nat.beq (ed.on + 1) j
theorem chainB_at {ops : Array Oper} {m : Nat} (h : chainB ops m = true) : ∀ (j : Nat) (o : Oper), m < j → ops[j]? = some o → ∃ ed ∈ o.after, Region.binds .any ed = true ∧ ed.on + 1 = j := by
  intro j o h1 h2
  have hlt := (Array.getElem?_eq_some_iff.1 h2).1
  have := List.all_eq_true.1 h j (List.mem_range.2 hlt)
  rw [opAt_eq hlt] at h2
  cases h2
  simp only [Bool.or_eq_true, Nat.ble_eq, List.any_eq_true, Bool.and_eq_true] at this
  rcases this with h4 | ⟨ed, h5, h6, h7⟩
  · omega
  · exact ⟨ed, by simpa using h5, h6, nbeq.1 h7⟩

theorem itl_size : itl_ops.size = 11 := by kernel_rfl
theorem itl_low : lowB itl_ops.toList 0 = true := by kernel_rfl
theorem itl_late : lateB itl_ops 9 = true := by kernel_rfl
theorem itl_chain : chainB itl_ops 9 = true := by kernel_rfl
theorem itl_nd : itl_ops.toList.all notDefer = true := by kernel_rfl
theorem itl_o0 : (opAt itl_ops 0).op = .move (.tmp 0) ∧ (opAt itl_ops 0).dst = some 8 ∧ (opAt itl_ops 0).guard = none ∧ (opAt itl_ops 0).after = #[] := ⟨by kernel_rfl, by kernel_rfl, by kernel_rfl, by kernel_rfl⟩
noncomputable def itl_call : Call := match (opAt itl_ops 9).op with
  | .call c => c
  | _ => { callee := .value (.tmp 0), args := #[], argTypes := #[] }
theorem itl_o9 : (opAt itl_ops 9).op = .call itl_call ∧ itl_call.callee = .value (.tmp 8) ∧ itl_call.args = #[.tmp 9, .tmp 16] ∧ (opAt itl_ops 9).dst = some 17 ∧ (opAt itl_ops 9).guard = none := ⟨by kernel_rfl, by kernel_rfl, by kernel_rfl, by kernel_rfl, by kernel_rfl⟩
theorem itl_o10 : (∃ t, (opAt itl_ops 10).op = .unOp .not t (.tmp 17)) ∧ (opAt itl_ops 10).dst = some 18 ∧ (opAt itl_ops 10).guard = none := ⟨⟨(opAt itl_ops 10).type, by kernel_rfl⟩, by kernel_rfl, by kernel_rfl⟩
theorem itl_noSel : Region.noSelect itl_ops = true := by kernel_rfl
theorem itl_free : Region.free .any itl_ops (Array.replicate 11 false) 0 = true := by kernel_rfl
theorem itl_ready : (Region.ready .any itl_ops (Array.replicate 11 false)).contains 0 = true := by kernel_rfl
theorem itl_mixed : Tryd.prog.follows .mixedOrders = true := by kernel_rfl
theorem itl_pA : plainC itl_cA = true := by kernel_rfl
theorem itl_pB : plainC itl_cB = true := by kernel_rfl
theorem itl_pD : plainC itl_cD = true := by kernel_rfl

theorem secL_at (seed : Vector UInt8 32) {i : Nat} (h : i < 32) : (List.map encLamp (secL seed))[i]? = some (encLamp (secP seed i)) := by
  simp [secL, h]
theorem secL_len (seed : Vector UInt8 32) : (List.map encLamp (secL seed)).length = 32 := by simp [secL]

theorem itl_len : ((itl_ops.toList.drop 1).take 8).length = 8 := by rw [List.length_take, List.length_drop, Array.length_toList, itl_size]; rfl
theorem itl_run (seed : Vector UInt8 32) (i : UInt8) : ∃ st4 log, canon [1, 3, 9, 16] st4 = some (itl_t seed i) ∧ pairsB itl_ops itl_ops.size log = true ∧ log.map (·.1) = List.range' 1 8 ∧ Run (itl_C 9).cfg itl_ops log (itl_s seed i).e (lk (itl_s seed i).L) st4.e (lk st4.L) := by
  have h1 := region_run (itl_R seed i) (fun j hj => by
    rw [List.length_take] at hj
    rw [List.getElem?_take_of_lt (by omega), List.getElem?_drop, Array.getElem?_toList])
  rw [itl_len] at h1
  exact h1
section
variable {w : World} {S : Nat → Prop} {pb l : Nat} {seed : Vector UInt8 32} {J : Nat → World → Prop} {Jx : World → Prop}
/-- at the loop's head -/
structure ItlH (w : World) (S : Nat → Prop) (pb l : Nat) (seed : Vector UInt8 32) (J : Nat → World → Prop) (i : Nat) (a : Act) (W : World) : Prop where
  it : ItH 19 S w [(pb, itl_seed seed)] (itl_s seed (UInt8.ofNat i)) a W
  y : a.tmps.getD 0 undef = .func (.yield l) #[] #[]
  j : J i W
/-- how it is left -/
def itl_Q (J : Nat → World → Prop) (Jx : World → Prop) (ex : Exit) (a : Act) (w : World) : Prop := ((ex = .exit 0 ∧ J 32 w) ∨ (ex = .ret ∧ Jx w)) ∧ a.defers = []

theorem itl_shape (seed : Vector UInt8 32) (i : UInt8) : flatS (itl_s seed i) = true := by kernel_rfl
theorem itl_shapeT (seed : Vector UInt8 32) (i : UInt8) : flatS (itl_t seed i) = true := by kernel_rfl

theorem itl_round (hG : GlobOK theG S w.heap) (hS : ∀ b, S b → b < w.heap.size) (hp : ¬ S pb) (hJ : ∀ i W W', Ch (fun b => b = pb) W W' → J i W → J i W')
    (hY : ∀ i x W (av : Array Value), (List.map encLamp (secL seed))[i]? = some x → w.heap.size ≤ W.heap.size → J i W → RepAs (fun _ => undef) (fun _ => False) #[] (fun _ => none) (x.map A.pv) av.toList →
        YieldAt Fence.wide 0 Tryd.prog l av W fun e W' => (e = .returned (.bool true) ∧ J (i + 1) W' ∧ Ch (fun b => ¬ (S b ∨ b = pb)) W W') ∨ (e = .returned (.bool false) ∧ Jx W'))
    {i : Nat} (hi : i ≤ 32) {a : Act} {W : World} (h : ItlH w S pb l seed J i a W) {K : Act → World → Prop} (hK : ∀ a W, i < 32 → ItlH w S pb l seed J (i + 1) a W → K a W) :
    itl_l.wpIn (FR none) 0 Tryd.prog (Exit.then K (itl_Q J Jx)) a W := by
  have hps : ∀ p, p ∈ [(pb, itl_seed seed)].map (·.1) → ¬ S p := fun p hp' => by simp at hp'; subst hp'; exact hp
  have hfl : ∀ p x, (p, x) ∈ [(pb, itl_seed seed)] → x.flat = true := fun p x hx => by simp at hx; obtain ⟨rfl, rfl⟩ := hx; rfl
  have hs : ∀ {np : Nat} {s t : St}, 1 < np → s.e 1 = .p 60000 [] → t.e 1 = .p 60000 [] → ∀ n, n < [(pb, itl_seed seed)].length → ∃ q, q < np ∧ s.e q = .p (60000 + n) [] ∧ t.e q = .p (60000 + n) [] := fun h1 h2 h3 n hn => by
    simp at hn; subst hn; exact ⟨1, h1, h2, h3⟩
  have ch1 : ∀ {W W' : World}, Ch (fun b => b ∈ [(pb, itl_seed seed)].map (·.1)) W W' → Ch (fun b => b = pb) W W' := fun h => ⟨h.size, fun b hb hn => h.keep b hb (by simpa using hn), h.os, h.tape, h.output⟩
  have hQn : ¬ LetsOut (itl_Q J Jx) := fun ⟨a, w, h⟩ => by rcases h.1 with h | h <;> cases h.1
  rw [itl_lcode]
  refine wpIn_seq (ItH.seg (C := itl_C 4) (t := itl_s seed (UInt8.ofNat i)) (mkC_ok itl_tok) itl_mixed h.it itl_pB (fun ⟨a, w, h⟩ => hQn ⟨a, w, h⟩) (X := fun ex => ex = .exit 0 ∧ ¬ i < 32) (N := i < 32) (Eq.mpr (itl_B seed _ _ _) ?_) hG hS hps (by simp) (itl_shape _ _) rfl (bx' := [(pb, itl_seed seed)]) rfl rfl (itl_shape _ _) hfl (hs (by decide) rfl rfl) (fun hi' a1 W1 h1 c1 p1 => ?_) (fun ex hne hx a1 W1 d1 c1 => ?_))
  · have : decide (UInt8.ofNat i < 32) = decide (i < 32) := by
      apply decide_eq_decide.2
      rw [UInt8.lt_iff_toNat_lt, UInt8.toNat_ofNat_of_lt' (by simp only [UInt8.size]; omega)]
      exact Iff.rfl
    rw [this]
    by_cases hlt : i < 32
    · rw [decide_eq_true hlt]; exact ⟨rfl, hlt⟩
    · rw [decide_eq_false hlt]; exact ⟨rfl, hlt⟩
  rotate_left
  · obtain ⟨rfl, hlt⟩ := hx
    have : i = 32 := by omega
    subst this
    exact ⟨.inl ⟨rfl, hJ _ _ _ (ch1 c1) h.j⟩, d1⟩
  have y1 : a1.tmps.getD 0 undef = .func (.yield l) #[] #[] := (p1 0 (by decide)).trans h.y
  have j1 := hJ _ _ _ (ch1 c1) h.j
  refine wpIn_seq (wpIn_block (wpIn_seq (wpIn_region_any itl_mixed ?_)))
  obtain ⟨W2, hW2⟩ : ∃ W2 : World, W2 = { W1 with drawn := W1.drawn + 1 } := ⟨_, rfl⟩
  rw [← hW2]
  have c2 : Ch (fun b => b = pb) W1 W2 := by subst hW2; exact ⟨Nat.le_refl _, fun _ _ _ => rfl, rfl, rfl, rfl⟩
  have h2 : ItH 19 S w [(pb, itl_seed seed)] (itl_s seed (UInt8.ofNat i)) a1 W2 := by subst hW2; exact ⟨h1.nt, h1.df, h1.vals, h1.ptrs, h1.L, h1.box, h1.sz, h1.same⟩
  have j2 := hJ _ _ _ c2 j1
  generalize hQ3 : (Exit.then (Code.wpIn (FR none) 0 Tryd.prog (.cond (.tmp 18) .ret .skip) _) _ : Exit → Act → World → Prop) = Q3
  have q3p : ∀ c a w, ¬ Q3 (.panic c) a w := fun c a w hx => by
    subst hQ3
    rcases hx.1 with hx | hx <;> cases hx.1
  have q3o : ¬ LetsOut Q3 := fun ⟨a, w, hx⟩ => by
    subst hQ3
    rcases hx.1 with hx | hx <;> cases hx.1
  rw [show itl_ops.size = 10 + 1 from itl_size]
  obtain ⟨o0a, o0b, o0c, o0d⟩ := itl_o0
  have ev0 : a1.eval (.tmp 0) = .func (.yield l) #[] #[] := y1
  refine wpAnyIn_take (F := FR none) (i := 0) (oi := opAt itl_ops 0) (v := .func (.yield l) #[] #[]) rfl (opAt_eq (by rw [itl_size]; decide)) itl_noSel itl_free itl_ready (fun c a w hx => absurd hx (q3p _ _ _))
    ⟨.inl ⟨by simp [Region.wanted, o0c], fun w => by simp only [execOp, o0a, ev0]; rfl⟩, fun w => by simp [Oper.about, o0a]⟩ ?_
  rw [o0b]
  have h3 := h2.put (d := 8) (v := .func (.yield l) #[] #[]) (by decide) rfl
  have y3 : (a1.put (some 8) (.func (.yield l) #[] #[])).tmps.getD 8 undef = .func (.yield l) #[] #[] := by rw [getD_put a1 8 _ 8 (by rw [h1.nt]; decide), if_pos rfl]
  have y30 : (a1.put (some 8) (.func (.yield l) #[] #[])).tmps.getD 0 undef = .func (.yield l) #[] #[] := by rw [getD_put a1 8 _ 0 (by rw [h1.nt]; decide), if_neg (by decide)]; exact y1
  generalize a1.put (some 8) (.func (.yield l) #[] #[]) = a3 at h3 y3 y30
  have r3 := h3.rl (np := 9) hG hS hps (by simp) (itl_shape _ _) rfl
  obtain ⟨st4, log, hcan, hpr, hkeys, hrun⟩ := itl_run seed (UInt8.ofNat i)
  have hll : log.length = 8 := by have := congrArg List.length hkeys; simpa using this
  have hmem : ∀ j, (∃ b, (j, b) ∈ log) ↔ (1 ≤ j ∧ j < 9) := fun j => by
    have : j ∈ log.map (·.1) ↔ (1 ≤ j ∧ j < 9) := by rw [hkeys, List.mem_range'_1]
    rw [← this]
    constructor
    · rintro ⟨b, hb⟩; exact List.mem_map.2 ⟨_, hb, rfl⟩
    · intro h; obtain ⟨p, hp1, rfl⟩ := List.mem_map.1 h; exact ⟨p.2, hp1⟩
  have hlow : ∀ (j : Nat) (o : Oper), itl_ops[j]? = some o → ∀ ed ∈ o.after, Region.binds .any ed = true → ed.on < j := fun j o ho ed hed hb => by
    have := lowB_sound itl_ops.toList 0 itl_low j o (by simpa using ho) ed (by simpa using hed) hb
    omega
  have hli0 : ∀ j, j < itl_ops.size → (((Array.replicate (10 + 1) false).setIfInBounds 0 true).getD j true = false ↔ (∃ b, (j, b) ∈ log) ∨ 9 ≤ j) := fun j hj => by
    rw [hmem j]
    rw [itl_size] at hj
    by_cases h0 : j = 0
    · subst h0; simp
    · rw [Go.getD_set_ne true (fun e => h0 e.symm)]
      have : (Array.replicate (10 + 1) false).getD j true = false := by simp [hj]
      simp only [this, true_iff]
      omega
  have hd0 : ∀ (j : Nat) (o : Oper), itl_ops[j]? = some o → ((Array.replicate (10 + 1) false).setIfInBounds 0 true).getD j false = true → ∀ ed ∈ o.after, Region.binds .any ed = true → ((Array.replicate (10 + 1) false).setIfInBounds 0 true).getD ed.on false = true := fun j o ho hj ed hed hb => by
    by_cases h0 : j = 0
    · subst h0
      rw [opAt_eq (by rw [itl_size]; decide)] at ho
      cases ho
      rw [o0d] at hed
      simp at hed
    · rw [Go.getD_set_ne false (fun e => h0 e.symm)] at hj
      have hlt := (Array.getElem?_eq_some_iff.1 ho).1
      rw [itl_size] at hlt
      simp [hlt] at hj
  have tail : ∀ (listed : Array Bool) β' S' a4 W4, listed.size = itl_ops.size → (∀ j, j < itl_ops.size → (listed.getD j true = false ↔ 9 ≤ j)) → RlF (itK W2 ([(pb, itl_seed seed)].map (·.1)) S theG 19 9 a3) β' S' st4.e (lk st4.L) a4 W4 → wpAnyIn (FR none) 0 Tryd.prog .any itl_ops Q3 2 listed a4 W4 := fun listed β' S' a4 W4 hls hli r4 => by
    refine any_tail 2 9 listed a4 W4 (by rw [itl_size]) hls hli hlow (chainB_at itl_chain) ?_
    obtain ⟨β5, r5⟩ := canon_sound hcan r4
    obtain ⟨h5, c5, p5⟩ := ItH.of h3 hS hps r5 (bx' := [(pb, itl_seed seed)]) rfl rfl (itl_shapeT _ _) hfl (hs (by decide) rfl rfl)
    have y5 : a4.tmps.getD 8 undef = .func (.yield l) #[] #[] := (p5 8 (by decide)).trans y3
    have y50 : a4.tmps.getD 0 undef = .func (.yield l) #[] #[] := (p5 0 (by decide)).trans y30
    have j5 := hJ _ _ _ (ch1 c5) j2
    obtain ⟨o9a, o9b, o9c, o9d, o9e⟩ := itl_o9
    obtain ⟨⟨t10, o10a⟩, o10b, o10c⟩ := itl_o10
    have v9 : RepA0 (.pv (.sc .u8 (UInt8.ofNat i))) (a4.eval (.tmp 9)) := h5.vals 9 _ rfl
    have v16 : RepA0 (.pv (.ar 32 [.arr .u8 32 (secV seed (UInt8.ofNat i) 0), .arr .u8 32 (secV seed (UInt8.ofNat i) 1)])) (a4.eval (.tmp 16)) := h5.vals 16 _ rfl
    refine yield_not (fr := none) (R := fun e W' => (e = .returned (.bool true) ∧ J (i + 1) W' ∧ Ch (fun b => ¬ (S b ∨ b = pb)) W4 W') ∨ (e = .returned (.bool false) ∧ Jx W')) (opAt_eq (by rw [itl_size]; decide)) (opAt_eq (by rw [itl_size]; decide)) o9e o10c o9d o10b o9a o9b (l := l) y5 (av := #[a4.eval (.tmp 9), a4.eval (.tmp 16)]) (by rw [o9c]; simp) o10a (by rw [h5.nt]; decide)
      (hY i _ W4 _ (secL_at seed hi') h5.sz j5 (.cons v9 (.cons v16 .nil))) (fun e W' hR => ?_)
    have hsz4 : 17 < a4.tmps.size ∧ 18 < a4.tmps.size := by rw [h5.nt]; decide
    rcases hR with ⟨rfl, j6, c6⟩ | ⟨rfl, x6⟩
    · refine ⟨true, rfl, ?_⟩
      have h6 := ((h5.world hS (Fi := fun b => b = pb) (fun b hb => by simpa using hb) c6).put (d := 17) (v := .bool true) (by decide) rfl).put (d := 18) (v := .bool false) (by decide) rfl
      have e6 : ((a4.put (some 17) (.bool true)).put (some 18) (.bool false)).tmps.getD 18 undef = .bool false := by rw [getD_put _ 18 _ 18 (by simpa [Act.put] using hsz4.2), if_pos rfl]
      have y6 : ((a4.put (some 17) (.bool true)).put (some 18) (.bool false)).tmps.getD 0 undef = .func (.yield l) #[] #[] := by rw [getD_put _ 18 _ 0 (by simpa [Act.put] using hsz4.2), if_neg (by decide), getD_put _ 17 _ 0 hsz4.1, if_neg (by decide)]; exact y50
      show Q3 .normal ((a4.put (some 17) (.bool true)).put (some 18) (.bool false)) W'
      generalize (a4.put (some 17) (.bool true)).put (some 18) (.bool false) = a6 at h6 e6 y6
      subst hQ3
      show (Code.cond (.tmp 18) .ret .skip).wpIn (FR none) 0 Tryd.prog _ a6 W'
      refine wpIn_cond_false e6 (wpIn_skip ?_)
      show itl_cD.wpIn (FR none) 0 Tryd.prog (Exit.then K (itl_Q J Jx)) a6 W'
      have h7 : ItH 19 S w [(pb, itl_seed seed)] (itl_s seed (UInt8.ofNat i)) a6 W' := h6.cut rfl (fun q => by
        simp only [St.e, itl_s, itl_t, lk_cons]
        by_cases h1 : 1 = q
        · simp [h1]
        · by_cases h3 : 3 = q
          · simp [h1, h3]
          · simp [h1, h3, lk])
      exact ItH.seg (C := itl_C 2) (t := itl_s seed (UInt8.ofNat i + 1)) (mkC_ok itl_tok) itl_mixed h7 itl_pD (fun ⟨a, w, h⟩ => hQn ⟨a, w, h⟩) (X := fun ex => False) (N := True) (Eq.mpr (itl_D seed _ _ _) ⟨rfl, trivial⟩) hG hS hps (by simp) (itl_shape _ _) rfl (bx' := [(pb, itl_seed seed)]) rfl rfl (itl_shape _ _) hfl (hs (by decide) rfl rfl)
        (fun _ a8 W8 h8 c8 p8 => hK a8 W8 hi' ⟨by rw [show UInt8.ofNat (i + 1) = UInt8.ofNat i + 1 from by simp]; exact h8, (p8 0 (by decide)).trans y6, hJ _ _ _ (ch1 c8) j6⟩) (fun ex hne hx => hx.elim)
    · refine ⟨false, rfl, ?_⟩
      have e6 : ((a4.put (some 17) (.bool false)).put (some 18) (.bool true)).tmps.getD 18 undef = .bool true := by rw [getD_put _ 18 _ 18 (by simpa [Act.put] using hsz4.2), if_pos rfl]
      show Q3 .normal ((a4.put (some 17) (.bool false)).put (some 18) (.bool true)) W'
      have d6 : ((a4.put (some 17) (.bool false)).put (some 18) (.bool true)).defers = [] := h5.df
      generalize (a4.put (some 17) (.bool false)).put (some 18) (.bool true) = a6 at e6 d6
      subst hQ3
      show (Code.cond (.tmp 18) .ret .skip).wpIn (FR none) 0 Tryd.prog _ a6 W'
      refine wpIn_cond_true e6 (wpIn_ret ?_)
      exact ⟨.inr ⟨rfl, x6⟩, d6⟩
  have key := any_soundY (C := (itl_C 9).cfg) (ops := itl_ops) 9 2 (lateB_at itl_late) itl_nd (mkC_ok itl_tok) (k := itK W2 ([(pb, itl_seed seed)].map (·.1)) S theG 19 9 a3) rfl ⟨rfl, rfl⟩ hlow q3o tail itl_ops.size log ((Array.replicate (10 + 1) false).setIfInBounds 0 true) _ _ _ _ _ _ hrun
    (pairsB_sound hpr (by rw [hkeys]; exact List.pairwise_lt_range')) (by rw [Array.size_setIfInBounds, Array.size_replicate, itl_size]) (fun p hp => ((hmem p.1).1 ⟨p.2, hp⟩).2) hli0 hd0 r3
  rw [hll] at key
  exact key

theorem itl_loop (hG : GlobOK theG S w.heap) (hS : ∀ b, S b → b < w.heap.size) (hp : ¬ S pb) (hJ : ∀ i W W', Ch (fun b => b = pb) W W' → J i W → J i W')
    (hY : ∀ i x W (av : Array Value), (List.map encLamp (secL seed))[i]? = some x → w.heap.size ≤ W.heap.size → J i W → RepAs (fun _ => undef) (fun _ => False) #[] (fun _ => none) (x.map A.pv) av.toList →
        YieldAt Fence.wide 0 Tryd.prog l av W fun e W' => (e = .returned (.bool true) ∧ J (i + 1) W' ∧ Ch (fun b => ¬ (S b ∨ b = pb)) W W') ∨ (e = .returned (.bool false) ∧ Jx W')) :
    ∀ (d : Nat) {i : Nat} (_ : i + d = 32) {a : Act} {W : World} (_ : ItlH w S pb l seed J i a W), Code.roundsIn (FR none) 0 Tryd.prog itl_l (itl_Q J Jx) (d + 1) a W
  | 0, i, hd, a, W, h => by
    rw [roundsIn_succ]
    exact itl_round hG hS hp hJ hY (by omega) h (fun _ _ hlt _ => by omega)
  | d + 1, i, hd, a, W, h => by
    rw [roundsIn_succ]
    exact itl_round hG hS hp hJ hY (by omega) h (fun a W hlt h => itl_loop hG hS hp hJ hY d (by omega) h)

end
section
variable {w : World}
theorem itl_func : Tryd.prog.funcs[64]? = some Tryd.f64 := by kernel_rfl
theorem itl_body : Tryd.f64.body = some itl_b := by kernel_rfl
theorem itl_ntmps : Tryd.f64.ntmps = 19 := by kernel_rfl
theorem itl_results : Tryd.f64.results = #[] := by kernel_rfl
theorem itl_it : ItOK Tryd.prog theG 64 (itLamp 64) := by
  intro w β S N0 F L args vals ns xs hs hG M hargs l J Jx hJ hJx hY h0
  unfold itLamp at hs
  rw [Nat.beq_refl, cond_true] at hs
  split at hs
  case h_2 => cases hs
  rename_i n
  split at hs
  case h_2 => cases hs
  rename_i seed hL
  cases hs
  obtain ⟨pb, cs, T, hβ, hcs, hrep⟩ := M.blk n _ hL
  have hrep : RepPV S w.heap (itl_seed seed) cs.toList := by cases hrep with | pv r => exact r
  have hrep := (hrep.flat' (S2 := fun _ => False) rfl).mono (h' := #[]) (fun _ h => h) (fun _ h => h.elim)
  have hfp : ∀ b, OwnBy β [n] b ↔ b = pb := fun b => by
    constructor
    · rintro ⟨m, hm, hf⟩
      simp at hm
      subst hm
      rw [hβ] at hf
      exact hf.symm
    · rintro rfl
      exact ⟨n, by simp, by rw [hβ]; rfl⟩
  have hno := M.own n _ hL pb (by rw [hβ]; rfl)
  -- the arguments
  obtain ⟨v, hv, rfl⟩ : ∃ v, vals = #[v] ∧ v = .pointer (some ⟨pb, 0, none⟩) := by
    cases vals with
    | mk vl =>
    cases hargs with
    | cons a r =>
      cases r
      obtain ⟨vs, rv, ev⟩ := a
      cases rv with
      | p e1 e2 e3 =>
        rw [hL] at e1; cases e1
        rw [hβ] at e3
        simp only [baseAddr, Option.some.injEq, Addr.mk.injEq] at e3
        obtain ⟨rfl, rfl, _⟩ := e3
        refine ⟨_, rfl, ?_⟩
        rw [ev]
        show Value.pointer (some ⟨pb, 0 + (A.pv (itl_seed seed)).off [], none⟩) = _
        rw [A.off_nil]
  subst hv
  have cEq : ∀ {W W' : World}, Ch (fun b => b = pb) W W' → Ch (OwnBy β [n]) W W' := fun h => ⟨h.size, fun b hb hn => h.keep b hb (fun e => hn ((hfp b).2 e)), h.os, h.tape, h.output⟩
  have hJ' : ∀ i W W', Ch (fun b => b = pb) W W' → J i W → J i W' := fun i W W' h => hJ i W W' (cEq h)
  have hY' : ∀ i x W (av : Array Value), (List.map encLamp (secL seed))[i]? = some x → w.heap.size ≤ W.heap.size → J i W → RepAs (fun _ => undef) (fun _ => False) #[] (fun _ => none) (x.map A.pv) av.toList →
        YieldAt Fence.wide 0 Tryd.prog l av W fun e W' => (e = .returned (.bool true) ∧ J (i + 1) W' ∧ Ch (fun b => ¬ (S b ∨ b = pb)) W W') ∨ (e = .returned (.bool false) ∧ Jx W') := fun i x W av h1 h2 h3 h4 => by
    obtain ⟨fn, tm, asg, bd, g1, g2⟩ := hY i x W av h1 h2 h3 h4
    refine ⟨fn, tm, asg, bd, g1, g2.mono fun e W' => ?_⟩
    rintro (⟨rfl, j1, c1⟩ | h)
    · exact .inl ⟨rfl, j1, ⟨c1.size, fun b hb hn => c1.keep b hb (fun hn2 => hn (fun h => hn2 (h.imp id (hfp b).2))), c1.os, c1.tape, c1.output⟩⟩
    · exact .inr h
  rw [secL_len]
  refine (callsIn_wide (n := 0)).1 (callsIn_of_wp_marks itl_func itl_body trivial ?_ rfl)
  refine wpIn_mono (Q := fun ex a w => (ex = .ret ∨ ex = .normal) ∧ a.defers = [] ∧ (J 32 w ∨ Jx w)) ?_ (fun ex a W hq => ?_)
  rotate_left
  · obtain ⟨he, hd, hq⟩ := hq
    have : LeavesInM Fence.wide 0 Tryd.prog Tryd.f64 a.tmps (fun e W' => (∃ v, e = .returned v) ∧ (J 32 W' ∨ Jx W')) a.defers .returning W := by
      rw [hd]
      exact ⟨.tuple #[], results_none itl_results _ _ _, ⟨_, rfl⟩, hq⟩
    rcases he with rfl | rfl <;> exact this
  obtain ⟨a0, ha0⟩ : ∃ a0 : Act, a0 = { tmps := (#[Value.func (.yield l) #[] #[]] ++ #[Value.pointer (some ⟨pb, 0, none⟩)]) ++ Array.replicate (Tryd.f64.ntmps - (#[Value.func (.yield l) #[] #[]] ++ #[Value.pointer (some ⟨pb, 0, none⟩)]).size) undef, defers := [] } := ⟨_, rfl⟩
  rw [← ha0]
  rw [itl_ntmps] at ha0
  have fr := frame_two (.func (.yield l) #[] #[]) (.pointer (some ⟨pb, 0, none⟩)) 19 (by decide)
  have e0 : a0.tmps.getD 0 undef = .func (.yield l) #[] #[] := by rw [ha0]; exact fr.1
  have e1 : a0.tmps.getD 1 undef = .pointer (some ⟨pb, 0, none⟩) := by rw [ha0]; exact fr.2.1
  have en : a0.tmps.size = 19 := by rw [ha0]; exact fr.2.2
  have ed : a0.defers = [] := by rw [ha0]
  have h1 : ItH 19 S w [(pb, itl_seed seed)] ⟨[(1, .p 60000 [])], itl_L seed⟩ a0 w := by
    refine ⟨en, ed, fun q x hx => ?_, fun q m hm => ?_, rfl, fun p x hx => ?_, Nat.le_refl _, fun _ _ => rfl⟩
    · simp only [St.e, lk_cons] at hx
      by_cases h : 1 = q
      · rw [if_pos h] at hx; cases hx
      · rw [if_neg h] at hx; cases hx
    · simp only [St.e, lk_cons] at hm
      by_cases h : 1 = q
      · rw [if_pos h] at hm
        cases hm
        subst h
        exact ⟨pb, itl_seed seed, Nat.le_refl _, rfl, e1⟩
      · rw [if_neg h] at hm; cases hm
    · simp at hx
      obtain ⟨rfl, rfl⟩ := hx
      exact ⟨cs, T, hcs, hrep⟩
  have hS : ∀ b, S b → b < w.heap.size := M.bound
  have hps : ∀ p, p ∈ [(pb, itl_seed seed)].map (·.1) → ¬ S p := fun p hp' => by simp at hp'; subst hp'; exact hno.1
  have hfl : ∀ p x, (p, x) ∈ [(pb, itl_seed seed)] → x.flat = true := fun p x hx => by simp at hx; obtain ⟨rfl, rfl⟩ := hx; rfl
  have ch1 : ∀ {W W' : World}, Ch (fun b => b ∈ [(pb, itl_seed seed)].map (·.1)) W W' → Ch (fun b => b = pb) W W' := fun h => ⟨h.size, fun b hb hn => h.keep b hb (by simpa using hn), h.os, h.tape, h.output⟩
  clear ha0
  rw [itl_code]
  refine wpIn_seq (ItH.seg (C := itl_C 2) (t := itl_s seed 0) (mkC_ok itl_tok) itl_mixed h1 itl_pA (fun ⟨a, w, h⟩ => by rcases h.1 with h | h <;> cases h) (X := fun ex => False) (N := True) (Eq.mpr (itl_A seed _ _) ⟨rfl, trivial⟩) hG hS hps (by simp) rfl rfl (bx' := [(pb, itl_seed seed)]) rfl rfl (itl_shape _ _) hfl
    (fun n hn => by simp at hn; subst hn; exact ⟨1, by decide, rfl, rfl⟩) (fun _ a2 W2 h2 c2 p2 => ?_) (fun ex hne hx => hx.elim))
  refine wpIn_block (wpIn_loop_rounds 33 ?_)
  have h3 : ItlH w S pb l seed J 0 a2 W2 := ⟨h2, (p2 0 (by decide)).trans e0, hJ' _ _ _ (ch1 c2) h0⟩
  have hr := itl_loop (Jx := Jx) hG hS hno.1 hJ' hY' 32 (i := 0) rfl h3
  exact roundsIn_mono (fun ex a W h => by
    rcases h.1 with ⟨rfl, hj⟩ | ⟨rfl, hx⟩
    · exact ⟨.inr rfl, h.2, .inl hj⟩
    · exact ⟨.inl rfl, h.2, .inr hx⟩) _ hr
end
theorem itLamp_ok : ItsOK Tryd.prog theG itLamp := by
  intro gf args L r h
  have hgf : gf = 64 := by
    unfold itLamp at h
    cases hb : Nat.beq gf 64 with
    | true => exact nbeq.1 hb
    | false => rw [hb] at h; cases h
  subst hgf
  exact ⟨by kernel_rfl, itl_it⟩

end
end Go.Proofs.YtkjillpcmffgoaaDoor.M

namespace Go.Proofs.YtkjillpcmffgoaaDoor.M
open Go
noncomputable section
set_option maxRecDepth 100000
set_option maxHeartbeats 0
noncomputable def lamp_Sign_T : Tbl := [(57, [], lamp_secrets_c), (35, [], lamp_Bit_c), (19, [], sha_Sum_c)]
noncomputable def lamp_Sign_C : CfgW := mkC Tryd.prog theG lamp_Sign_T 30 0 false itLamp [5, 22]
def lamp_Sign_lv : Nat → List Nat := fun i => bif Nat.beq i 3000000 then [6, 3, 5] else bif Nat.beq i 5000006 then [8, 0, 1] else []
noncomputable abbrev lamp_Sign_b : Code := Tryd.f39.body.getD .skip
noncomputable abbrev lamp_Sign_r : List ResultVar := Tryd.f39.results.toList
def lamp_Sign_hs : List Nat := []

def lamp_Sign_enc (r : List UInt8) : CallOut := ⟨.o 60000, [(60000, .row (.s .u8 r) false)], true, []⟩
def lamp_Sign_s500000 (digest : Vector UInt8 32) (sigm : List UInt8) : St := ⟨[(3, .p 60000 []), (5, .p 60001 [])], [(60000, .box (.pv (.arr .u8 32 digest))), (60001, .box (.o 60002)), (60002, .row (.s .u8 sigm) false)]⟩
theorem lamp_Sign_gn0 (digest : Vector UInt8 32) (sigm : List UInt8) (Q : CallOut → Prop) : rngNil lamp_Sign_C lamp_Sign_lv [true, true, false, true, false] lamp_Sign_b (lamp_Sign_s500000 digest sigm) (fnK lamp_Sign_C lamp_Sign_r lamp_Sign_hs Q) =
    (Q (lamp_Sign_enc sigm)) := by kernel_rfl
theorem lamp_Sign_gc0 (k_3 : UInt8) (p : Vector UInt8 32) (q : Vector UInt8 32) (es : List (UInt8 × (Vector UInt8 32) × (Vector UInt8 32))) (digest : Vector UInt8 32) (sigm : List UInt8) (Q : CallOut → Prop) : rngCons lamp_Sign_C lamp_Sign_lv [true, true, false, true, false] lamp_Sign_b [.sc .u8 k_3, .ar 32 [.arr .u8 32 p, .arr .u8 32 q]] (List.map encLamp es) (lamp_Sign_s500000 digest sigm) (fnK lamp_Sign_C lamp_Sign_r lamp_Sign_hs Q) =
    (condP (decide ((bitV digest k_3) = (0 : UInt8))) ((((0 : Int) ≤ (1 : Int)) ∧ ((1 : Int) < (2 : Int))) ∧ ((((0 : Int) ≤ (0 : Int)) ∧ (((0 : Int) ≤ (32 : Int)) ∧ ((32 : Int) ≤ (((32 : Nat) : Nat) : Int)))) ∧ (((List.length (List.take ((Int.toNat (32 : Int)) - (Int.toNat (0 : Int))) (List.drop (Int.toNat (0 : Int)) (Vector.toList q)))) ≤ (1099511627776 : Nat)) ∧ ((((0 : Int) ≤ (0 : Int)) ∧ ((0 : Int) < (2 : Int))) ∧ ((((0 : Int) ≤ (0 : Int)) ∧ (((0 : Int) ≤ (32 : Int)) ∧ ((32 : Int) ≤ (((32 : Nat) : Nat) : Int)))) ∧ (((((List.length (sigm ++ (List.take ((Int.toNat (32 : Int)) - (Int.toNat (0 : Int))) (List.drop (Int.toNat (0 : Int)) (Vector.toList p))))) * (1 : Nat)) ≤ (70368744177664 : Nat)) ∧ ((List.length (sigm ++ (List.take ((Int.toNat (32 : Int)) - (Int.toNat (0 : Int))) (List.drop (Int.toNat (0 : Int)) (Vector.toList p))))) ≤ (70368744177664 : Nat))) ∧ ((((0 : Int) ≤ (0 : Int)) ∧ (((0 : Int) ≤ (32 : Int)) ∧ ((32 : Int) ≤ (((32 : Nat) : Nat) : Int)))) ∧ (((((List.length ((sigm ++ (List.take ((Int.toNat (32 : Int)) - (Int.toNat (0 : Int))) (List.drop (Int.toNat (0 : Int)) (Vector.toList p)))) ++ (List.take ((Int.toNat (32 : Int)) - (Int.toNat (0 : Int))) (List.drop (Int.toNat (0 : Int)) (Vector.toList (shaSum (List.take ((Int.toNat (32 : Int)) - (Int.toNat (0 : Int))) (List.drop (Int.toNat (0 : Int)) (Vector.toList q))))))))) * (1 : Nat)) ≤ (70368744177664 : Nat)) ∧ ((List.length ((sigm ++ (List.take ((Int.toNat (32 : Int)) - (Int.toNat (0 : Int))) (List.drop (Int.toNat (0 : Int)) (Vector.toList p)))) ++ (List.take ((Int.toNat (32 : Int)) - (Int.toNat (0 : Int))) (List.drop (Int.toNat (0 : Int)) (Vector.toList (shaSum (List.take ((Int.toNat (32 : Int)) - (Int.toNat (0 : Int))) (List.drop (Int.toNat (0 : Int)) (Vector.toList q))))))))) ≤ (70368744177664 : Nat))) ∧ (rngHP lamp_Sign_C lamp_Sign_lv [true, true, false, true, false] lamp_Sign_b (List.map encLamp es) (lamp_Sign_s500000 digest ((sigm ++ (List.take ((Int.toNat (32 : Int)) - (Int.toNat (0 : Int))) (List.drop (Int.toNat (0 : Int)) (Vector.toList p)))) ++ (List.take ((Int.toNat (32 : Int)) - (Int.toNat (0 : Int))) (List.drop (Int.toNat (0 : Int)) (Vector.toList (shaSum (List.take ((Int.toNat (32 : Int)) - (Int.toNat (0 : Int))) (List.drop (Int.toNat (0 : Int)) (Vector.toList q))))))))) (fnK lamp_Sign_C lamp_Sign_r lamp_Sign_hs Q)))))))))) (condP (decide ((bitV digest k_3) = (1 : UInt8))) ((((0 : Int) ≤ (0 : Int)) ∧ ((0 : Int) < (2 : Int))) ∧ ((((0 : Int) ≤ (0 : Int)) ∧ (((0 : Int) ≤ (32 : Int)) ∧ ((32 : Int) ≤ (((32 : Nat) : Nat) : Int)))) ∧ (((List.length (List.take ((Int.toNat (32 : Int)) - (Int.toNat (0 : Int))) (List.drop (Int.toNat (0 : Int)) (Vector.toList p)))) ≤ (1099511627776 : Nat)) ∧ ((((0 : Int) ≤ (1 : Int)) ∧ ((1 : Int) < (2 : Int))) ∧ ((((0 : Int) ≤ (0 : Int)) ∧ (((0 : Int) ≤ (32 : Int)) ∧ ((32 : Int) ≤ (((32 : Nat) : Nat) : Int)))) ∧ (((((List.length (sigm ++ (List.take ((Int.toNat (32 : Int)) - (Int.toNat (0 : Int))) (List.drop (Int.toNat (0 : Int)) (Vector.toList q))))) * (1 : Nat)) ≤ (70368744177664 : Nat)) ∧ ((List.length (sigm ++ (List.take ((Int.toNat (32 : Int)) - (Int.toNat (0 : Int))) (List.drop (Int.toNat (0 : Int)) (Vector.toList q))))) ≤ (70368744177664 : Nat))) ∧ ((((0 : Int) ≤ (0 : Int)) ∧ (((0 : Int) ≤ (32 : Int)) ∧ ((32 : Int) ≤ (((32 : Nat) : Nat) : Int)))) ∧ (((((List.length ((sigm ++ (List.take ((Int.toNat (32 : Int)) - (Int.toNat (0 : Int))) (List.drop (Int.toNat (0 : Int)) (Vector.toList q)))) ++ (List.take ((Int.toNat (32 : Int)) - (Int.toNat (0 : Int))) (List.drop (Int.toNat (0 : Int)) (Vector.toList (shaSum (List.take ((Int.toNat (32 : Int)) - (Int.toNat (0 : Int))) (List.drop (Int.toNat (0 : Int)) (Vector.toList p))))))))) * (1 : Nat)) ≤ (70368744177664 : Nat)) ∧ ((List.length ((sigm ++ (List.take ((Int.toNat (32 : Int)) - (Int.toNat (0 : Int))) (List.drop (Int.toNat (0 : Int)) (Vector.toList q)))) ++ (List.take ((Int.toNat (32 : Int)) - (Int.toNat (0 : Int))) (List.drop (Int.toNat (0 : Int)) (Vector.toList (shaSum (List.take ((Int.toNat (32 : Int)) - (Int.toNat (0 : Int))) (List.drop (Int.toNat (0 : Int)) (Vector.toList p))))))))) ≤ (70368744177664 : Nat))) ∧ (rngHP lamp_Sign_C lamp_Sign_lv [true, true, false, true, false] lamp_Sign_b (List.map encLamp es) (lamp_Sign_s500000 digest ((sigm ++ (List.take ((Int.toNat (32 : Int)) - (Int.toNat (0 : Int))) (List.drop (Int.toNat (0 : Int)) (Vector.toList q)))) ++ (List.take ((Int.toNat (32 : Int)) - (Int.toNat (0 : Int))) (List.drop (Int.toNat (0 : Int)) (Vector.toList (shaSum (List.take ((Int.toNat (32 : Int)) - (Int.toNat (0 : Int))) (List.drop (Int.toNat (0 : Int)) (Vector.toList p))))))))) (fnK lamp_Sign_C lamp_Sign_r lamp_Sign_hs Q)))))))))) (False))) := by kernel_rfl
theorem lamp_Sign_kr0 {r : List UInt8} {Q : CallOut → Prop} (hQ : Q (lamp_Sign_enc r)) : ∀ (es : List (UInt8 × (Vector UInt8 32) × (Vector UInt8 32))) (digest : Vector UInt8 32) (sigm : List UInt8), lamp_Sign_r0 es digest sigm = some r → rngHP lamp_Sign_C lamp_Sign_lv [true, true, false, true, false] lamp_Sign_b (List.map encLamp es) (lamp_Sign_s500000 digest sigm) (fnK lamp_Sign_C lamp_Sign_r lamp_Sign_hs Q)
  | [], digest, sigm => fun h => rngHP_nil (Eq.mpr (lamp_Sign_gn0 digest sigm Q) (have h := (lamp_Sign_r0_n digest sigm).symm.trans h; ret_ok (Q := Q) (e := lamp_Sign_enc) h hQ))
  | (k_3, p, q) :: es, digest, sigm => fun h => rngHP_cons (Eq.mpr (lamp_Sign_gc0 k_3 p q es digest sigm Q) (have h := (lamp_Sign_r0_c k_3 p q es digest sigm).symm.trans h; cond_ok h (fun h => ⟨by decide +kernel, ⟨by decide +kernel, ite_ok h fun hc0 h => ⟨by decide +kernel, ⟨by decide +kernel, ite_ok h fun hc1 h => ⟨by decide +kernel, ite_ok h fun hc2 h => lamp_Sign_kr0 hQ es _ _ h⟩⟩⟩⟩⟩) (fun h => cond_ok h (fun h => ⟨by decide +kernel, ⟨by decide +kernel, ite_ok h fun hc0 h => ⟨by decide +kernel, ⟨by decide +kernel, ite_ok h fun hc1 h => ⟨by decide +kernel, ite_ok h fun hc2 h => lamp_Sign_kr0 hQ es _ _ h⟩⟩⟩⟩⟩) (fun h => no_ok h))))
theorem lamp_Sign_e (seed : Vector UInt8 32) (digest : Vector UInt8 32) (Q : CallOut → Prop) : evalFnP lamp_Sign_C lamp_Sign_lv lamp_Sign_r lamp_Sign_hs lamp_Sign_b [.pv (.arr .u8 32 seed), .pv (.arr .u8 32 digest)] [] Q =
    (rngHP lamp_Sign_C lamp_Sign_lv [true, true, false, true, false] lamp_Sign_b (List.map encLamp (secL (lamp_secrets seed))) (lamp_Sign_s500000 digest ([] : List UInt8)) (fnK lamp_Sign_C lamp_Sign_r lamp_Sign_hs Q)) := by kernel_rfl
theorem lamp_Sign_w (seed : Vector UInt8 32) (digest : Vector UInt8 32) {r} {Q : CallOut → Prop} (h : lamp_Sign seed digest = some r) (hQ : Q (lamp_Sign_enc r)) : evalFnP lamp_Sign_C lamp_Sign_lv lamp_Sign_r lamp_Sign_hs lamp_Sign_b [.pv (.arr .u8 32 seed), .pv (.arr .u8 32 digest)] [] Q :=
  Eq.mpr (lamp_Sign_e seed digest Q) (have h := (lamp_Sign_q seed digest).symm.trans h; (lamp_Sign_kr0 hQ) _ _ _ h)
def lamp_Sign_c : Ans
  | [.pv (.arr .u8 32 seed), .pv (.arr .u8 32 digest)], [] => some (none, lamp_Sign_enc (sigL seed digest))
  | _, _ => none
theorem lamp_Sign_tok : TblOK Tryd.prog theG lamp_Sign_T := .cons ⟨by kernel_rfl, lamp_secrets_ok⟩ (.cons ⟨by kernel_rfl, lamp_Bit_ok⟩ (.cons ⟨by kernel_rfl, sha_Sum_ok⟩ (.nil)))
theorem lamp_Sign_ok : FnOK Tryd.prog theG 39 (unW lamp_Sign_c) := by
  refine FnOK.ofC (T := lamp_Sign_T) (nt := 30) (np := 0) (mv := [5, 22]) (it := itLamp) (nf := false) (hs := lamp_Sign_hs) (fn := Tryd.f39) (body := lamp_Sign_b) lamp_Sign_tok (by kernel_rfl) (by kernel_rfl) (by kernel_rfl) (by kernel_rfl) (c := lamp_Sign_c) (lv := lamp_Sign_lv) ?_ itLamp_ok
  intro xs mem p out h hp
  unfold lamp_Sign_c at h
  split at h
  · cases h
    exact lamp_Sign_w _ _ (lamp_Sign_spec _ _) rfl
  · cases h
end
end Go.Proofs.YtkjillpcmffgoaaDoor.M

namespace Go.Proofs.YtkjillpcmffgoaaDoor.M
open Go
noncomputable section
set_option maxRecDepth 100000
set_option maxHeartbeats 0
noncomputable def lamp_Key_T : Tbl := [(57, [], lamp_secrets_c), (19, [], sha_Sum_c)]
noncomputable def lamp_Key_C : CfgW := mkC Tryd.prog theG lamp_Key_T 25 0 false itLamp [3, 19]
def lamp_Key_lv : Nat → List Nat := fun i => bif Nat.beq i 2 then [2, 3, 13, 14] else bif Nat.beq i 3000000 then [5, 2, 3] else bif Nat.beq i 4000002 then [3, 2, 3, 13, 14] else []
noncomputable abbrev lamp_Key_b : Code := Tryd.f37.body.getD .skip
noncomputable abbrev lamp_Key_r : List ResultVar := Tryd.f37.results.toList
def lamp_Key_hs : List Nat := []

def lamp_Key_enc (r : Vector UInt8 32) : CallOut := ⟨.pv (.arr .u8 32 r), [], true, []⟩
def lamp_Key_s500000 (t2 : Vector UInt8 32) (allm : List UInt8) : St := ⟨[(2, .p 60000 []), (3, .p 60001 [])], [(60000, .box (.pv (.arr .u8 32 t2))), (60001, .box (.o 60002)), (60002, .row (.s .u8 allm) false)]⟩
theorem lamp_Key_gn0 (t2 : Vector UInt8 32) (allm : List UInt8) (Q : CallOut → Prop) : rngNil lamp_Key_C lamp_Key_lv [true, true, false, true, false] lamp_Key_b (lamp_Key_s500000 t2 allm) (fnK lamp_Key_C lamp_Key_r lamp_Key_hs Q) =
    (((List.length allm) ≤ (1099511627776 : Nat)) ∧ (Q (lamp_Key_enc (shaSum allm)))) := by kernel_rfl
theorem lamp_Key_gc0 (k_3 : UInt8) (p : Vector UInt8 32) (q : Vector UInt8 32) (es : List (UInt8 × (Vector UInt8 32) × (Vector UInt8 32))) (t2 : Vector UInt8 32) (allm : List UInt8) (Q : CallOut → Prop) : rngCons lamp_Key_C lamp_Key_lv [true, true, false, true, false] lamp_Key_b [.sc .u8 k_3, .ar 32 [.arr .u8 32 p, .arr .u8 32 q]] (List.map encLamp es) (lamp_Key_s500000 t2 allm) (fnK lamp_Key_C lamp_Key_r lamp_Key_hs Q) =
    (((((List.length ([(PV.arr EK.u8 (32 : Nat) p), (PV.arr EK.u8 (32 : Nat) q)] : List PV)) = (2 : Nat)) ∧ (((0 : Int) ≤ (0 : Int)) ∧ ((0 : Int) < (2 : Int)))) ∧ ((TY.chk (TY.arr EK.u8 (32 : Nat)) (List.getD ([(PV.arr EK.u8 (32 : Nat) p), (PV.arr EK.u8 (32 : Nat) q)] : List PV) (0 : Nat) PV.nilp)) = true)) ∧ ((((0 : Int) ≤ (0 : Int)) ∧ (((0 : Int) ≤ (32 : Int)) ∧ ((32 : Int) ≤ (((32 : Nat) : Nat) : Int)))) ∧ (((List.length (List.take ((Int.toNat (32 : Int)) - (Int.toNat (0 : Int))) (List.drop (Int.toNat (0 : Int)) (Vector.toList (PV.vecv EK.u8 (32 : Nat) (List.getD ([(PV.arr EK.u8 (32 : Nat) p), (PV.arr EK.u8 (32 : Nat) q)] : List PV) (0 : Nat) PV.nilp)))))) ≤ (1099511627776 : Nat)) ∧ ((((0 : Int) ≤ (0 : Int)) ∧ (((0 : Int) ≤ (32 : Int)) ∧ ((32 : Int) ≤ (((32 : Nat) : Nat) : Int)))) ∧ (((((List.length (allm ++ (List.take ((Int.toNat (32 : Int)) - (Int.toNat (0 : Int))) (List.drop (Int.toNat (0 : Int)) (Vector.toList (shaSum (List.take ((Int.toNat (32 : Int)) - (Int.toNat (0 : Int))) (List.drop (Int.toNat (0 : Int)) (Vector.toList (PV.vecv EK.u8 (32 : Nat) (List.getD ([(PV.arr EK.u8 (32 : Nat) p), (PV.arr EK.u8 (32 : Nat) q)] : List PV) (0 : Nat) PV.nilp))))))))))) * (1 : Nat)) ≤ (70368744177664 : Nat)) ∧ ((List.length (allm ++ (List.take ((Int.toNat (32 : Int)) - (Int.toNat (0 : Int))) (List.drop (Int.toNat (0 : Int)) (Vector.toList (shaSum (List.take ((Int.toNat (32 : Int)) - (Int.toNat (0 : Int))) (List.drop (Int.toNat (0 : Int)) (Vector.toList (PV.vecv EK.u8 (32 : Nat) (List.getD ([(PV.arr EK.u8 (32 : Nat) p), (PV.arr EK.u8 (32 : Nat) q)] : List PV) (0 : Nat) PV.nilp))))))))))) ≤ (70368744177664 : Nat))) ∧ (((((List.length ([(PV.arr EK.u8 (32 : Nat) p), (PV.arr EK.u8 (32 : Nat) q)] : List PV)) = (2 : Nat)) ∧ (((0 : Int) ≤ (1 : Int)) ∧ ((1 : Int) < (2 : Int)))) ∧ ((TY.chk (TY.arr EK.u8 (32 : Nat)) (List.getD ([(PV.arr EK.u8 (32 : Nat) p), (PV.arr EK.u8 (32 : Nat) q)] : List PV) (1 : Nat) PV.nilp)) = true)) ∧ ((((0 : Int) ≤ (0 : Int)) ∧ (((0 : Int) ≤ (32 : Int)) ∧ ((32 : Int) ≤ (((32 : Nat) : Nat) : Int)))) ∧ (((List.length (List.take ((Int.toNat (32 : Int)) - (Int.toNat (0 : Int))) (List.drop (Int.toNat (0 : Int)) (Vector.toList (PV.vecv EK.u8 (32 : Nat) (List.getD ([(PV.arr EK.u8 (32 : Nat) p), (PV.arr EK.u8 (32 : Nat) q)] : List PV) (1 : Nat) PV.nilp)))))) ≤ (1099511627776 : Nat)) ∧ ((((0 : Int) ≤ (0 : Int)) ∧ (((0 : Int) ≤ (32 : Int)) ∧ ((32 : Int) ≤ (((32 : Nat) : Nat) : Int)))) ∧ (((((List.length ((allm ++ (List.take ((Int.toNat (32 : Int)) - (Int.toNat (0 : Int))) (List.drop (Int.toNat (0 : Int)) (Vector.toList (shaSum (List.take ((Int.toNat (32 : Int)) - (Int.toNat (0 : Int))) (List.drop (Int.toNat (0 : Int)) (Vector.toList (PV.vecv EK.u8 (32 : Nat) (List.getD ([(PV.arr EK.u8 (32 : Nat) p), (PV.arr EK.u8 (32 : Nat) q)] : List PV) (0 : Nat) PV.nilp)))))))))) ++ (List.take ((Int.toNat (32 : Int)) - (Int.toNat (0 : Int))) (List.drop (Int.toNat (0 : Int)) (Vector.toList (shaSum (List.take ((Int.toNat (32 : Int)) - (Int.toNat (0 : Int))) (List.drop (Int.toNat (0 : Int)) (Vector.toList (PV.vecv EK.u8 (32 : Nat) (List.getD ([(PV.arr EK.u8 (32 : Nat) p), (PV.arr EK.u8 (32 : Nat) q)] : List PV) (1 : Nat) PV.nilp))))))))))) * (1 : Nat)) ≤ (70368744177664 : Nat)) ∧ ((List.length ((allm ++ (List.take ((Int.toNat (32 : Int)) - (Int.toNat (0 : Int))) (List.drop (Int.toNat (0 : Int)) (Vector.toList (shaSum (List.take ((Int.toNat (32 : Int)) - (Int.toNat (0 : Int))) (List.drop (Int.toNat (0 : Int)) (Vector.toList (PV.vecv EK.u8 (32 : Nat) (List.getD ([(PV.arr EK.u8 (32 : Nat) p), (PV.arr EK.u8 (32 : Nat) q)] : List PV) (0 : Nat) PV.nilp)))))))))) ++ (List.take ((Int.toNat (32 : Int)) - (Int.toNat (0 : Int))) (List.drop (Int.toNat (0 : Int)) (Vector.toList (shaSum (List.take ((Int.toNat (32 : Int)) - (Int.toNat (0 : Int))) (List.drop (Int.toNat (0 : Int)) (Vector.toList (PV.vecv EK.u8 (32 : Nat) (List.getD ([(PV.arr EK.u8 (32 : Nat) p), (PV.arr EK.u8 (32 : Nat) q)] : List PV) (1 : Nat) PV.nilp))))))))))) ≤ (70368744177664 : Nat))) ∧ (rngHP lamp_Key_C lamp_Key_lv [true, true, false, true, false] lamp_Key_b (List.map encLamp es) (lamp_Key_s500000 t2 ((allm ++ (List.take ((Int.toNat (32 : Int)) - (Int.toNat (0 : Int))) (List.drop (Int.toNat (0 : Int)) (Vector.toList (shaSum (List.take ((Int.toNat (32 : Int)) - (Int.toNat (0 : Int))) (List.drop (Int.toNat (0 : Int)) (Vector.toList (PV.vecv EK.u8 (32 : Nat) (List.getD ([(PV.arr EK.u8 (32 : Nat) p), (PV.arr EK.u8 (32 : Nat) q)] : List PV) (0 : Nat) PV.nilp)))))))))) ++ (List.take ((Int.toNat (32 : Int)) - (Int.toNat (0 : Int))) (List.drop (Int.toNat (0 : Int)) (Vector.toList (shaSum (List.take ((Int.toNat (32 : Int)) - (Int.toNat (0 : Int))) (List.drop (Int.toNat (0 : Int)) (Vector.toList (PV.vecv EK.u8 (32 : Nat) (List.getD ([(PV.arr EK.u8 (32 : Nat) p), (PV.arr EK.u8 (32 : Nat) q)] : List PV) (1 : Nat) PV.nilp))))))))))) (fnK lamp_Key_C lamp_Key_r lamp_Key_hs Q)))))))))))) := by kernel_rfl
theorem lamp_Key_kr0 {r : Vector UInt8 32} {Q : CallOut → Prop} (hQ : Q (lamp_Key_enc r)) : ∀ (es : List (UInt8 × (Vector UInt8 32) × (Vector UInt8 32))) (t2 : Vector UInt8 32) (allm : List UInt8), lamp_Key_r0 es t2 allm = some r → rngHP lamp_Key_C lamp_Key_lv [true, true, false, true, false] lamp_Key_b (List.map encLamp es) (lamp_Key_s500000 t2 allm) (fnK lamp_Key_C lamp_Key_r lamp_Key_hs Q)
  | [], t2, allm => fun h => rngHP_nil (Eq.mpr (lamp_Key_gn0 t2 allm Q) (have h := (lamp_Key_r0_n t2 allm).symm.trans h; ite_ok h fun hc0 h => ret_ok (Q := Q) (e := lamp_Key_enc) h hQ))
  | (k_3, p, q) :: es, t2, allm => fun h => rngHP_cons (Eq.mpr (lamp_Key_gc0 k_3 p q es t2 allm Q) (have h := (lamp_Key_r0_c k_3 p q es t2 allm).symm.trans h; ite_ok h fun hc0 h => ⟨by decide +kernel, ite_ok h fun hc1 h => ⟨by decide +kernel, ite_ok h fun hc2 h => ite_ok h fun hc3 h => ⟨by decide +kernel, ite_ok h fun hc4 h => ⟨by decide +kernel, ite_ok h fun hc5 h => lamp_Key_kr0 hQ es _ _ h⟩⟩⟩⟩))
theorem lamp_Key_e (seed : Vector UInt8 32) (Q : CallOut → Prop) : evalFnP lamp_Key_C lamp_Key_lv lamp_Key_r lamp_Key_hs lamp_Key_b [.pv (.arr .u8 32 seed)] [] Q =
    (rngHP lamp_Key_C lamp_Key_lv [true, true, false, true, false] lamp_Key_b (List.map encLamp (secL (lamp_secrets seed))) (lamp_Key_s500000 (Vector.replicate (32 : Nat) (0 : UInt8)) ([] : List UInt8)) (fnK lamp_Key_C lamp_Key_r lamp_Key_hs Q)) := by kernel_rfl
theorem lamp_Key_w (seed : Vector UInt8 32) {r} {Q : CallOut → Prop} (h : lamp_Key seed = some r) (hQ : Q (lamp_Key_enc r)) : evalFnP lamp_Key_C lamp_Key_lv lamp_Key_r lamp_Key_hs lamp_Key_b [.pv (.arr .u8 32 seed)] [] Q :=
  Eq.mpr (lamp_Key_e seed Q) (have h := (lamp_Key_q seed).symm.trans h; (lamp_Key_kr0 hQ) _ _ _ h)
def lamp_Key_c : Ans
  | [.pv (.arr .u8 32 seed)], [] => some (none, lamp_Key_enc (keyV seed))
  | _, _ => none
theorem lamp_Key_tok : TblOK Tryd.prog theG lamp_Key_T := .cons ⟨by kernel_rfl, lamp_secrets_ok⟩ (.cons ⟨by kernel_rfl, sha_Sum_ok⟩ (.nil))
theorem lamp_Key_ok : FnOK Tryd.prog theG 37 (unW lamp_Key_c) := by
  refine FnOK.ofC (T := lamp_Key_T) (nt := 25) (np := 0) (mv := [3, 19]) (it := itLamp) (nf := false) (hs := lamp_Key_hs) (fn := Tryd.f37) (body := lamp_Key_b) lamp_Key_tok (by kernel_rfl) (by kernel_rfl) (by kernel_rfl) (by kernel_rfl) (c := lamp_Key_c) (lv := lamp_Key_lv) ?_ itLamp_ok
  intro xs mem p out h hp
  unfold lamp_Key_c at h
  split at h
  · cases h
    exact lamp_Key_w _ (lamp_Key_spec _) rfl
  · cases h
end
end Go.Proofs.YtkjillpcmffgoaaDoor.M

namespace Go.Proofs.YtkjillpcmffgoaaDoor.M
open Go
noncomputable section
set_option maxRecDepth 100000
set_option maxHeartbeats 0
noncomputable def lamp_Check_T : Tbl := [(19, [], sha_Sum_c), (35, [], lamp_Bit_c)]
noncomputable def lamp_Check_C : CfgW := mkC Tryd.prog theG lamp_Check_T 52 0 false
def lamp_Check_lv : Nat → List Nat := fun i => bif Nat.beq i 0 then [2, 3, 4, 7, 16] else bif Nat.beq i 1000009 then [4010] else bif Nat.beq i 5000011 then [12, 0, 1] else []
noncomputable abbrev lamp_Check_b : Code := Tryd.f42.body.getD .skip
noncomputable abbrev lamp_Check_r : List ResultVar := Tryd.f42.results.toList
def lamp_Check_hs : List Nat := []

def lamp_Check_enc (r : Int) : CallOut := ⟨.pv (.sc .i r), [], true, []⟩
def lamp_Check_s0 (sig : List UInt8) (t16 : Int) (key : Vector UInt8 32) (digest : Vector UInt8 32) (all : List UInt8) : St := ⟨[(2, .pv (.sl .u8 sig)), (3, .p 60000 []), (4, .p 60001 []), (7, .o 60002), (16, .pv (.sc .i t16))], [(60000, .box (.pv (.arr .u8 32 key))), (60001, .box (.pv (.arr .u8 32 digest))), (60002, .row (.s .u8 all) false)]⟩
theorem lamp_Check_g0 (sig : List UInt8) (t16 : Int) (key : Vector UInt8 32) (digest : Vector UInt8 32) (all : List UInt8) (Q : CallOut → Prop) : headRound lamp_Check_C lamp_Check_lv [true, true, true, false, true, false] lamp_Check_b (lamp_Check_s0 sig t16 key digest all) (fnK lamp_Check_C lamp_Check_r lamp_Check_hs Q) =
    (condP (decide (t16 < (32 : Int))) ((((0 : Int) ≤ (w64 ((64 : Int) * t16))) ∧ (((w64 ((64 : Int) * t16)) ≤ (w64 ((64 : Int) * (w64 (t16 + (1 : Int)))))) ∧ ((w64 ((64 : Int) * (w64 (t16 + (1 : Int))))) ≤ (((List.length sig) : Nat) : Int)))) ∧ ((((0 : Int) ≤ (0 : Int)) ∧ (((0 : Int) ≤ (32 : Int)) ∧ ((32 : Int) ≤ (((List.length (List.take ((Int.toNat (w64 ((64 : Int) * (w64 (t16 + (1 : Int)))))) - (Int.toNat (w64 ((64 : Int) * t16)))) (List.drop (Int.toNat (w64 ((64 : Int) * t16))) sig))) : Nat) : Int)))) ∧ (((List.length (List.take ((Int.toNat (32 : Int)) - (Int.toNat (0 : Int))) (List.drop (Int.toNat (0 : Int)) (List.take ((Int.toNat (w64 ((64 : Int) * (w64 (t16 + (1 : Int)))))) - (Int.toNat (w64 ((64 : Int) * t16)))) (List.drop (Int.toNat (w64 ((64 : Int) * t16))) sig))))) ≤ (1099511627776 : Nat)) ∧ ((((0 : Int) ≤ (0 : Int)) ∧ (((0 : Int) ≤ (32 : Int)) ∧ ((32 : Int) ≤ (((32 : Nat) : Nat) : Int)))) ∧ ((((0 : Int) ≤ (32 : Int)) ∧ (((32 : Int) ≤ (((List.length (List.take ((Int.toNat (w64 ((64 : Int) * (w64 (t16 + (1 : Int)))))) - (Int.toNat (w64 ((64 : Int) * t16)))) (List.drop (Int.toNat (w64 ((64 : Int) * t16))) sig))) : Nat) : Int)) ∧ ((((List.length (List.take ((Int.toNat (w64 ((64 : Int) * (w64 (t16 + (1 : Int)))))) - (Int.toNat (w64 ((64 : Int) * t16)))) (List.drop (Int.toNat (w64 ((64 : Int) * t16))) sig))) : Nat) : Int) ≤ (((List.length (List.take ((Int.toNat (w64 ((64 : Int) * (w64 (t16 + (1 : Int)))))) - (Int.toNat (w64 ((64 : Int) * t16)))) (List.drop (Int.toNat (w64 ((64 : Int) * t16))) sig))) : Nat) : Int)))) ∧ (condP (decide ((bitV digest (UInt8.ofInt t16)) = (0 : UInt8))) ((((0 : Int) ≤ (0 : Int)) ∧ ((0 : Int) < (2 : Int))) ∧ (((TY.chk (TY.sl EK.u8) (PV.sl EK.u8 (List.take ((Int.toNat (32 : Int)) - (Int.toNat (0 : Int))) (List.drop (Int.toNat (0 : Int)) (Vector.toList (shaSum (List.take ((Int.toNat (32 : Int)) - (Int.toNat (0 : Int))) (List.drop (Int.toNat (0 : Int)) (List.take ((Int.toNat (w64 ((64 : Int) * (w64 (t16 + (1 : Int)))))) - (Int.toNat (w64 ((64 : Int) * t16)))) (List.drop (Int.toNat (w64 ((64 : Int) * t16))) sig)))))))))) = true) ∧ (((((List.length (all ++ (PV.slv EK.u8 (PV.sl EK.u8 (List.take ((Int.toNat (32 : Int)) - (Int.toNat (0 : Int))) (List.drop (Int.toNat (0 : Int)) (Vector.toList (shaSum (List.take ((Int.toNat (32 : Int)) - (Int.toNat (0 : Int))) (List.drop (Int.toNat (0 : Int)) (List.take ((Int.toNat (w64 ((64 : Int) * (w64 (t16 + (1 : Int)))))) - (Int.toNat (w64 ((64 : Int) * t16)))) (List.drop (Int.toNat (w64 ((64 : Int) * t16))) sig)))))))))))) * (1 : Nat)) ≤ (70368744177664 : Nat)) ∧ ((List.length (all ++ (PV.slv EK.u8 (PV.sl EK.u8 (List.take ((Int.toNat (32 : Int)) - (Int.toNat (0 : Int))) (List.drop (Int.toNat (0 : Int)) (Vector.toList (shaSum (List.take ((Int.toNat (32 : Int)) - (Int.toNat (0 : Int))) (List.drop (Int.toNat (0 : Int)) (List.take ((Int.toNat (w64 ((64 : Int) * (w64 (t16 + (1 : Int)))))) - (Int.toNat (w64 ((64 : Int) * t16)))) (List.drop (Int.toNat (w64 ((64 : Int) * t16))) sig)))))))))))) ≤ (70368744177664 : Nat))) ∧ ((((0 : Int) ≤ (1 : Int)) ∧ ((1 : Int) < (2 : Int))) ∧ (((TY.chk (TY.sl EK.u8) (PV.sl EK.u8 (List.take ((Int.toNat (((List.length (List.take ((Int.toNat (w64 ((64 : Int) * (w64 (t16 + (1 : Int)))))) - (Int.toNat (w64 ((64 : Int) * t16)))) (List.drop (Int.toNat (w64 ((64 : Int) * t16))) sig))) : Nat) : Int)) - (Int.toNat (32 : Int))) (List.drop (Int.toNat (32 : Int)) (List.take ((Int.toNat (w64 ((64 : Int) * (w64 (t16 + (1 : Int)))))) - (Int.toNat (w64 ((64 : Int) * t16)))) (List.drop (Int.toNat (w64 ((64 : Int) * t16))) sig)))))) = true) ∧ (((((List.length ((all ++ (PV.slv EK.u8 (PV.sl EK.u8 (List.take ((Int.toNat (32 : Int)) - (Int.toNat (0 : Int))) (List.drop (Int.toNat (0 : Int)) (Vector.toList (shaSum (List.take ((Int.toNat (32 : Int)) - (Int.toNat (0 : Int))) (List.drop (Int.toNat (0 : Int)) (List.take ((Int.toNat (w64 ((64 : Int) * (w64 (t16 + (1 : Int)))))) - (Int.toNat (w64 ((64 : Int) * t16)))) (List.drop (Int.toNat (w64 ((64 : Int) * t16))) sig))))))))))) ++ (PV.slv EK.u8 (PV.sl EK.u8 (List.take ((Int.toNat (((List.length (List.take ((Int.toNat (w64 ((64 : Int) * (w64 (t16 + (1 : Int)))))) - (Int.toNat (w64 ((64 : Int) * t16)))) (List.drop (Int.toNat (w64 ((64 : Int) * t16))) sig))) : Nat) : Int)) - (Int.toNat (32 : Int))) (List.drop (Int.toNat (32 : Int)) (List.take ((Int.toNat (w64 ((64 : Int) * (w64 (t16 + (1 : Int)))))) - (Int.toNat (w64 ((64 : Int) * t16)))) (List.drop (Int.toNat (w64 ((64 : Int) * t16))) sig)))))))) * (1 : Nat)) ≤ (70368744177664 : Nat)) ∧ ((List.length ((all ++ (PV.slv EK.u8 (PV.sl EK.u8 (List.take ((Int.toNat (32 : Int)) - (Int.toNat (0 : Int))) (List.drop (Int.toNat (0 : Int)) (Vector.toList (shaSum (List.take ((Int.toNat (32 : Int)) - (Int.toNat (0 : Int))) (List.drop (Int.toNat (0 : Int)) (List.take ((Int.toNat (w64 ((64 : Int) * (w64 (t16 + (1 : Int)))))) - (Int.toNat (w64 ((64 : Int) * t16)))) (List.drop (Int.toNat (w64 ((64 : Int) * t16))) sig))))))))))) ++ (PV.slv EK.u8 (PV.sl EK.u8 (List.take ((Int.toNat (((List.length (List.take ((Int.toNat (w64 ((64 : Int) * (w64 (t16 + (1 : Int)))))) - (Int.toNat (w64 ((64 : Int) * t16)))) (List.drop (Int.toNat (w64 ((64 : Int) * t16))) sig))) : Nat) : Int)) - (Int.toNat (32 : Int))) (List.drop (Int.toNat (32 : Int)) (List.take ((Int.toNat (w64 ((64 : Int) * (w64 (t16 + (1 : Int)))))) - (Int.toNat (w64 ((64 : Int) * t16)))) (List.drop (Int.toNat (w64 ((64 : Int) * t16))) sig)))))))) ≤ (70368744177664 : Nat))) ∧ (headP lamp_Check_C lamp_Check_lv [true, true, true, false, true, false] lamp_Check_b (lamp_Check_s0 sig (w64 (t16 + (1 : Int))) key digest ((all ++ (PV.slv EK.u8 (PV.sl EK.u8 (List.take ((Int.toNat (32 : Int)) - (Int.toNat (0 : Int))) (List.drop (Int.toNat (0 : Int)) (Vector.toList (shaSum (List.take ((Int.toNat (32 : Int)) - (Int.toNat (0 : Int))) (List.drop (Int.toNat (0 : Int)) (List.take ((Int.toNat (w64 ((64 : Int) * (w64 (t16 + (1 : Int)))))) - (Int.toNat (w64 ((64 : Int) * t16)))) (List.drop (Int.toNat (w64 ((64 : Int) * t16))) sig))))))))))) ++ (PV.slv EK.u8 (PV.sl EK.u8 (List.take ((Int.toNat (((List.length (List.take ((Int.toNat (w64 ((64 : Int) * (w64 (t16 + (1 : Int)))))) - (Int.toNat (w64 ((64 : Int) * t16)))) (List.drop (Int.toNat (w64 ((64 : Int) * t16))) sig))) : Nat) : Int)) - (Int.toNat (32 : Int))) (List.drop (Int.toNat (32 : Int)) (List.take ((Int.toNat (w64 ((64 : Int) * (w64 (t16 + (1 : Int)))))) - (Int.toNat (w64 ((64 : Int) * t16)))) (List.drop (Int.toNat (w64 ((64 : Int) * t16))) sig)))))))) (fnK lamp_Check_C lamp_Check_r lamp_Check_hs Q)))))))) (condP (decide ((bitV digest (UInt8.ofInt t16)) = (1 : UInt8))) ((((0 : Int) ≤ (1 : Int)) ∧ ((1 : Int) < (2 : Int))) ∧ (((TY.chk (TY.sl EK.u8) (PV.sl EK.u8 (List.take ((Int.toNat (((List.length (List.take ((Int.toNat (w64 ((64 : Int) * (w64 (t16 + (1 : Int)))))) - (Int.toNat (w64 ((64 : Int) * t16)))) (List.drop (Int.toNat (w64 ((64 : Int) * t16))) sig))) : Nat) : Int)) - (Int.toNat (32 : Int))) (List.drop (Int.toNat (32 : Int)) (List.take ((Int.toNat (w64 ((64 : Int) * (w64 (t16 + (1 : Int)))))) - (Int.toNat (w64 ((64 : Int) * t16)))) (List.drop (Int.toNat (w64 ((64 : Int) * t16))) sig)))))) = true) ∧ (((((List.length (all ++ (PV.slv EK.u8 (PV.sl EK.u8 (List.take ((Int.toNat (((List.length (List.take ((Int.toNat (w64 ((64 : Int) * (w64 (t16 + (1 : Int)))))) - (Int.toNat (w64 ((64 : Int) * t16)))) (List.drop (Int.toNat (w64 ((64 : Int) * t16))) sig))) : Nat) : Int)) - (Int.toNat (32 : Int))) (List.drop (Int.toNat (32 : Int)) (List.take ((Int.toNat (w64 ((64 : Int) * (w64 (t16 + (1 : Int)))))) - (Int.toNat (w64 ((64 : Int) * t16)))) (List.drop (Int.toNat (w64 ((64 : Int) * t16))) sig)))))))) * (1 : Nat)) ≤ (70368744177664 : Nat)) ∧ ((List.length (all ++ (PV.slv EK.u8 (PV.sl EK.u8 (List.take ((Int.toNat (((List.length (List.take ((Int.toNat (w64 ((64 : Int) * (w64 (t16 + (1 : Int)))))) - (Int.toNat (w64 ((64 : Int) * t16)))) (List.drop (Int.toNat (w64 ((64 : Int) * t16))) sig))) : Nat) : Int)) - (Int.toNat (32 : Int))) (List.drop (Int.toNat (32 : Int)) (List.take ((Int.toNat (w64 ((64 : Int) * (w64 (t16 + (1 : Int)))))) - (Int.toNat (w64 ((64 : Int) * t16)))) (List.drop (Int.toNat (w64 ((64 : Int) * t16))) sig)))))))) ≤ (70368744177664 : Nat))) ∧ ((((0 : Int) ≤ (0 : Int)) ∧ ((0 : Int) < (2 : Int))) ∧ (((TY.chk (TY.sl EK.u8) (PV.sl EK.u8 (List.take ((Int.toNat (32 : Int)) - (Int.toNat (0 : Int))) (List.drop (Int.toNat (0 : Int)) (Vector.toList (shaSum (List.take ((Int.toNat (32 : Int)) - (Int.toNat (0 : Int))) (List.drop (Int.toNat (0 : Int)) (List.take ((Int.toNat (w64 ((64 : Int) * (w64 (t16 + (1 : Int)))))) - (Int.toNat (w64 ((64 : Int) * t16)))) (List.drop (Int.toNat (w64 ((64 : Int) * t16))) sig)))))))))) = true) ∧ (((((List.length ((all ++ (PV.slv EK.u8 (PV.sl EK.u8 (List.take ((Int.toNat (((List.length (List.take ((Int.toNat (w64 ((64 : Int) * (w64 (t16 + (1 : Int)))))) - (Int.toNat (w64 ((64 : Int) * t16)))) (List.drop (Int.toNat (w64 ((64 : Int) * t16))) sig))) : Nat) : Int)) - (Int.toNat (32 : Int))) (List.drop (Int.toNat (32 : Int)) (List.take ((Int.toNat (w64 ((64 : Int) * (w64 (t16 + (1 : Int)))))) - (Int.toNat (w64 ((64 : Int) * t16)))) (List.drop (Int.toNat (w64 ((64 : Int) * t16))) sig))))))) ++ (PV.slv EK.u8 (PV.sl EK.u8 (List.take ((Int.toNat (32 : Int)) - (Int.toNat (0 : Int))) (List.drop (Int.toNat (0 : Int)) (Vector.toList (shaSum (List.take ((Int.toNat (32 : Int)) - (Int.toNat (0 : Int))) (List.drop (Int.toNat (0 : Int)) (List.take ((Int.toNat (w64 ((64 : Int) * (w64 (t16 + (1 : Int)))))) - (Int.toNat (w64 ((64 : Int) * t16)))) (List.drop (Int.toNat (w64 ((64 : Int) * t16))) sig)))))))))))) * (1 : Nat)) ≤ (70368744177664 : Nat)) ∧ ((List.length ((all ++ (PV.slv EK.u8 (PV.sl EK.u8 (List.take ((Int.toNat (((List.length (List.take ((Int.toNat (w64 ((64 : Int) * (w64 (t16 + (1 : Int)))))) - (Int.toNat (w64 ((64 : Int) * t16)))) (List.drop (Int.toNat (w64 ((64 : Int) * t16))) sig))) : Nat) : Int)) - (Int.toNat (32 : Int))) (List.drop (Int.toNat (32 : Int)) (List.take ((Int.toNat (w64 ((64 : Int) * (w64 (t16 + (1 : Int)))))) - (Int.toNat (w64 ((64 : Int) * t16)))) (List.drop (Int.toNat (w64 ((64 : Int) * t16))) sig))))))) ++ (PV.slv EK.u8 (PV.sl EK.u8 (List.take ((Int.toNat (32 : Int)) - (Int.toNat (0 : Int))) (List.drop (Int.toNat (0 : Int)) (Vector.toList (shaSum (List.take ((Int.toNat (32 : Int)) - (Int.toNat (0 : Int))) (List.drop (Int.toNat (0 : Int)) (List.take ((Int.toNat (w64 ((64 : Int) * (w64 (t16 + (1 : Int)))))) - (Int.toNat (w64 ((64 : Int) * t16)))) (List.drop (Int.toNat (w64 ((64 : Int) * t16))) sig)))))))))))) ≤ (70368744177664 : Nat))) ∧ (headP lamp_Check_C lamp_Check_lv [true, true, true, false, true, false] lamp_Check_b (lamp_Check_s0 sig (w64 (t16 + (1 : Int))) key digest ((all ++ (PV.slv EK.u8 (PV.sl EK.u8 (List.take ((Int.toNat (((List.length (List.take ((Int.toNat (w64 ((64 : Int) * (w64 (t16 + (1 : Int)))))) - (Int.toNat (w64 ((64 : Int) * t16)))) (List.drop (Int.toNat (w64 ((64 : Int) * t16))) sig))) : Nat) : Int)) - (Int.toNat (32 : Int))) (List.drop (Int.toNat (32 : Int)) (List.take ((Int.toNat (w64 ((64 : Int) * (w64 (t16 + (1 : Int)))))) - (Int.toNat (w64 ((64 : Int) * t16)))) (List.drop (Int.toNat (w64 ((64 : Int) * t16))) sig))))))) ++ (PV.slv EK.u8 (PV.sl EK.u8 (List.take ((Int.toNat (32 : Int)) - (Int.toNat (0 : Int))) (List.drop (Int.toNat (0 : Int)) (Vector.toList (shaSum (List.take ((Int.toNat (32 : Int)) - (Int.toNat (0 : Int))) (List.drop (Int.toNat (0 : Int)) (List.take ((Int.toNat (w64 ((64 : Int) * (w64 (t16 + (1 : Int)))))) - (Int.toNat (w64 ((64 : Int) * t16)))) (List.drop (Int.toNat (w64 ((64 : Int) * t16))) sig)))))))))))) (fnK lamp_Check_C lamp_Check_r lamp_Check_hs Q)))))))) (False)))))))) (((List.length all) ≤ (1099511627776 : Nat)) ∧ (condP (!(decide ((Vector.toList (shaSum all)) = (Vector.toList key)))) (Q (lamp_Check_enc (5 : Int))) (Q (lamp_Check_enc (0 : Int)))))) := by kernel_rfl
theorem lamp_Check_k0 {r : Int} {Q : CallOut → Prop} (hQ : Q (lamp_Check_enc r)) : ∀ k : Nat, (∀ (sig : List UInt8) (t16 : Int) (key : Vector UInt8 32) (digest : Vector UInt8 32) (all : List UInt8), lamp_Check_h0 k sig t16 key digest all = some r → headP lamp_Check_C lamp_Check_lv [true, true, true, false, true, false] lamp_Check_b (lamp_Check_s0 sig t16 key digest all) (fnK lamp_Check_C lamp_Check_r lamp_Check_hs Q))
  | 0 => fun _ _ _ _ _ h => no_ok h
  | k + 1 => fun sig t16 key digest all h => headP_step (Eq.mpr (lamp_Check_g0 sig t16 key digest all Q) (have h := (lamp_Check_h0_q k sig t16 key digest all).symm.trans h; cond_ok h (fun h => ite_ok h fun hc0 h => ite_ok h fun hc1 h => ite_ok h fun hc2 h => ⟨by decide +kernel, ite_ok h fun hc3 h => cond_ok h (fun h => ⟨by decide +kernel, ite_ok h fun hc4 h => ite_ok h fun hc5 h => ⟨by decide +kernel, ite_ok h fun hc6 h => ite_ok h fun hc7 h => (lamp_Check_k0 hQ k) _ _ _ _ _ h⟩⟩) (fun h => cond_ok h (fun h => ⟨by decide +kernel, ite_ok h fun hc4 h => ite_ok h fun hc5 h => ⟨by decide +kernel, ite_ok h fun hc6 h => ite_ok h fun hc7 h => (lamp_Check_k0 hQ k) _ _ _ _ _ h⟩⟩) (fun h => no_ok h))⟩) (fun h => ite_ok h fun hc0 h => cond_ok h (fun h => ret_ok (Q := Q) (e := lamp_Check_enc) h hQ) (fun h => ret_ok (Q := Q) (e := lamp_Check_enc) h hQ))))
theorem lamp_Check_e (key : Vector UInt8 32) (digest : Vector UInt8 32) (sig : List UInt8) (Q : CallOut → Prop) : evalFnP lamp_Check_C lamp_Check_lv lamp_Check_r lamp_Check_hs lamp_Check_b [.pv (.arr .u8 32 key), .pv (.arr .u8 32 digest), .pv (.sl .u8 sig)] [] Q =
    (condP (!(decide ((((List.length sig) : Nat) : Int) = (2048 : Int)))) (Q (lamp_Check_enc (5 : Int))) (headP lamp_Check_C lamp_Check_lv [true, true, true, false, true, false] lamp_Check_b (lamp_Check_s0 sig (0 : Int) key digest ([] : List UInt8)) (fnK lamp_Check_C lamp_Check_r lamp_Check_hs Q))) := by kernel_rfl
theorem lamp_Check_w {k : Nat} (key : Vector UInt8 32) (digest : Vector UInt8 32) (sig : List UInt8) {r} {Q : CallOut → Prop} (h : lamp_Check k key digest sig = some r) (hQ : Q (lamp_Check_enc r)) : evalFnP lamp_Check_C lamp_Check_lv lamp_Check_r lamp_Check_hs lamp_Check_b [.pv (.arr .u8 32 key), .pv (.arr .u8 32 digest), .pv (.sl .u8 sig)] [] Q :=
  Eq.mpr (lamp_Check_e key digest sig Q) (have h := (lamp_Check_q k key digest sig).symm.trans h; cond_ok h (fun h => ret_ok (Q := Q) (e := lamp_Check_enc) h hQ) (fun h => (lamp_Check_k0 hQ _) _ _ _ _ _ h))
def lamp_Check_c : Ans
  | [.pv (.arr .u8 32 key), .pv (.arr .u8 32 digest), .pv (.sl .u8 sig)], [] => some (none, lamp_Check_enc (checkV key digest sig))
  | _, _ => none
theorem lamp_Check_tok : TblOK Tryd.prog theG lamp_Check_T := .cons ⟨by kernel_rfl, sha_Sum_ok⟩ (.cons ⟨by kernel_rfl, lamp_Bit_ok⟩ (.nil))
theorem lamp_Check_ok : FnOK Tryd.prog theG 42 (unW lamp_Check_c) := by
  refine FnOK.ofC (T := lamp_Check_T) (nt := 52) (np := 0) (mv := []) (nf := false) (hs := lamp_Check_hs) (fn := Tryd.f42) (body := lamp_Check_b) lamp_Check_tok (by kernel_rfl) (by kernel_rfl) (by kernel_rfl) (by kernel_rfl) (c := lamp_Check_c) (lv := lamp_Check_lv) ?_
  intro xs mem p out h hp
  unfold lamp_Check_c at h
  split at h
  · cases h
    obtain ⟨k, hk⟩ := lamp_Check_spec _ _ _
    exact lamp_Check_w _ _ _ hk rfl
  · cases h
end
end Go.Proofs.YtkjillpcmffgoaaDoor.M
