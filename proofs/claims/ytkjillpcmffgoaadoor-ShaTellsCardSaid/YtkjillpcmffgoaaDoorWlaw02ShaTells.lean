/- The statement of ShaTells: for every input the law returns true, and each argument reads behind the call as it read before. No condition. -/
import Derived.KernelRfl
import Derived.Test.YtkjillpcmffgoaaDoorProg
import Derived.Test.YtkjillpcmffgoaaDoorRows
import Derived.Test.YtkjillpcmffgoaaDoorCards
import Derived.Test.YtkjillpcmffgoaaDoorTie
import Derived.WalkKit
import Derived.ProofKit
import Derived.Handy
import Derived.Lay
import Derived.SizedLaws
import Derived.SevenTiedAt
import Derived.Test.YtkjillpcmffgoaaDoorLd
import Derived.Test.YtkjillpcmffgoaaDoorFref02
import Derived.Test.YtkjillpcmffgoaaDoorFsha
import Derived.Test.YtkjillpcmffgoaaDoorFref00
import Derived.Test.YtkjillpcmffgoaaDoorFlaw02
import Derived.Test.YtkjillpcmffgoaaDoorSwords
import Derived.Test.YtkjillpcmffgoaaDoorSshaS
import Derived.Test.YtkjillpcmffgoaaDoorSshaK
import Derived.Test.YtkjillpcmffgoaaDoorSKL
set_option linter.unusedVariables false
set_option linter.unusedSimpArgs false
set_option autoImplicit false
namespace Go.Proofs.YtkjillpcmffgoaaDoor.M
open Go
noncomputable section
/-- moneyer/moneyerlaw02.ShaTells -/
def law02_ShaTells (b : List UInt8) (x_1 : Vector UInt8 32) (y : Vector UInt8 32) : Option (Bool) :=
  bif decide ((1000 : Int) < (((List.length b) : Nat) : Int)) then (if ((0 : Int) ≤ (0 : Int)) ∧ (((0 : Int) ≤ (1000 : Int)) ∧ ((1000 : Int) ≤ (((List.length b) : Nat) : Int))) then
      if (List.length (List.take ((Int.toNat (1000 : Int)) - (Int.toNat (0 : Int))) (List.drop (Int.toNat (0 : Int)) b))) ≤ (1099511627776 : Nat) then
        if ((List.length (List.take ((Int.toNat (1000 : Int)) - (Int.toNat (0 : Int))) (List.drop (Int.toNat (0 : Int)) b))) ≤ (1099511627776 : Nat)) ∧ ((sha_Begin = shaInit) ∧ (shaK = shaK)) then
          bif eqb (decide ((Vector.toList (shaSum (List.take ((Int.toNat (1000 : Int)) - (Int.toNat (0 : Int))) (List.drop (Int.toNat (0 : Int)) b)))) = (Vector.toList (shaSum (List.take ((Int.toNat (1000 : Int)) - (Int.toNat (0 : Int))) (List.drop (Int.toNat (0 : Int)) b)))))) true then (bif eqb (bif true then (decide ((Vector.toList (shaSum (Vector.toList (shaSum (List.take ((Int.toNat (1000 : Int)) - (Int.toNat (0 : Int))) (List.drop (Int.toNat (0 : Int)) b)))))) = (Vector.toList (shaSum (Vector.toList (shaSum (List.take ((Int.toNat (1000 : Int)) - (Int.toNat (0 : Int))) (List.drop (Int.toNat (0 : Int)) b)))))))) else false) true then (if (List.length (List.take ((Int.toNat (1000 : Int)) - (Int.toNat (0 : Int))) (List.drop (Int.toNat (0 : Int)) b))) ≤ (1000000000000 : Nat) then
                if ((List.length (List.take ((Int.toNat (1000 : Int)) - (Int.toNat (0 : Int))) (List.drop (Int.toNat (0 : Int)) b))) ≤ (1000000000000 : Nat)) ∧ ((sha_Begin = shaInit) ∧ (shaK = shaK)) then
                  bif eqb (bif true then (decide ((Vector.toList (shaSum (List.cons (0 : UInt8) (List.take ((Int.toNat (1000 : Int)) - (Int.toNat (0 : Int))) (List.drop (Int.toNat (0 : Int)) b))))) = (Vector.toList (shaSum (List.cons (0 : UInt8) (List.take ((Int.toNat (1000 : Int)) - (Int.toNat (0 : Int))) (List.drop (Int.toNat (0 : Int)) b))))))) else false) true then (bif eqb (bif true then (decide ((Vector.toList (shaSum (List.cons (1 : UInt8) ((Vector.toList x_1) ++ (Vector.toList y))))) = (Vector.toList (shaSum (List.cons (1 : UInt8) ((Vector.toList x_1) ++ (Vector.toList y))))))) else false) true then (if (List.length (shaPad (List.take ((Int.toNat (1000 : Int)) - (Int.toNat (0 : Int))) (List.drop (Int.toNat (0 : Int)) b)))) ≤ (1152921504606846976 : Nat) then
                        bif eqb (bif true then (decide ((shaPad (List.take ((Int.toNat (1000 : Int)) - (Int.toNat (0 : Int))) (List.drop (Int.toNat (0 : Int)) b))) = (shaPad (List.take ((Int.toNat (1000 : Int)) - (Int.toNat (0 : Int))) (List.drop (Int.toNat (0 : Int)) b))))) else false) true then (some true)
                          else (some false)
                      else none)
                      else (some false))
                    else (some false)
                else none
              else none)
              else (some false))
            else (some false)
        else none
      else none
    else none)
    else (if (List.length b) ≤ (1099511627776 : Nat) then
      if ((List.length b) ≤ (1099511627776 : Nat)) ∧ ((sha_Begin = shaInit) ∧ (shaK = shaK)) then
        bif eqb (decide ((Vector.toList (shaSum b)) = (Vector.toList (shaSum b)))) true then (bif eqb (bif true then (decide ((Vector.toList (shaSum (Vector.toList (shaSum b)))) = (Vector.toList (shaSum (Vector.toList (shaSum b)))))) else false) true then (if (List.length b) ≤ (1000000000000 : Nat) then
              if ((List.length b) ≤ (1000000000000 : Nat)) ∧ ((sha_Begin = shaInit) ∧ (shaK = shaK)) then
                bif eqb (bif true then (decide ((Vector.toList (shaSum (List.cons (0 : UInt8) b))) = (Vector.toList (shaSum (List.cons (0 : UInt8) b))))) else false) true then (bif eqb (bif true then (decide ((Vector.toList (shaSum (List.cons (1 : UInt8) ((Vector.toList x_1) ++ (Vector.toList y))))) = (Vector.toList (shaSum (List.cons (1 : UInt8) ((Vector.toList x_1) ++ (Vector.toList y))))))) else false) true then (if (List.length (shaPad b)) ≤ (1152921504606846976 : Nat) then
                      bif eqb (bif true then (decide ((shaPad b) = (shaPad b))) else false) true then (some true)
                        else (some false)
                    else none)
                    else (some false))
                  else (some false)
              else none
            else none)
            else (some false))
          else (some false)
      else none
    else none)
theorem law02_ShaTells_q (b : List UInt8) (x_1 : Vector UInt8 32) (y : Vector UInt8 32) : law02_ShaTells b x_1 y = (bif decide ((1000 : Int) < (((List.length b) : Nat) : Int)) then (if ((0 : Int) ≤ (0 : Int)) ∧ (((0 : Int) ≤ (1000 : Int)) ∧ ((1000 : Int) ≤ (((List.length b) : Nat) : Int))) then
      if (List.length (List.take ((Int.toNat (1000 : Int)) - (Int.toNat (0 : Int))) (List.drop (Int.toNat (0 : Int)) b))) ≤ (1099511627776 : Nat) then
        if ((List.length (List.take ((Int.toNat (1000 : Int)) - (Int.toNat (0 : Int))) (List.drop (Int.toNat (0 : Int)) b))) ≤ (1099511627776 : Nat)) ∧ ((sha_Begin = shaInit) ∧ (shaK = shaK)) then
          bif eqb (decide ((Vector.toList (shaSum (List.take ((Int.toNat (1000 : Int)) - (Int.toNat (0 : Int))) (List.drop (Int.toNat (0 : Int)) b)))) = (Vector.toList (shaSum (List.take ((Int.toNat (1000 : Int)) - (Int.toNat (0 : Int))) (List.drop (Int.toNat (0 : Int)) b)))))) true then (bif eqb (bif true then (decide ((Vector.toList (shaSum (Vector.toList (shaSum (List.take ((Int.toNat (1000 : Int)) - (Int.toNat (0 : Int))) (List.drop (Int.toNat (0 : Int)) b)))))) = (Vector.toList (shaSum (Vector.toList (shaSum (List.take ((Int.toNat (1000 : Int)) - (Int.toNat (0 : Int))) (List.drop (Int.toNat (0 : Int)) b)))))))) else false) true then (if (List.length (List.take ((Int.toNat (1000 : Int)) - (Int.toNat (0 : Int))) (List.drop (Int.toNat (0 : Int)) b))) ≤ (1000000000000 : Nat) then
                if ((List.length (List.take ((Int.toNat (1000 : Int)) - (Int.toNat (0 : Int))) (List.drop (Int.toNat (0 : Int)) b))) ≤ (1000000000000 : Nat)) ∧ ((sha_Begin = shaInit) ∧ (shaK = shaK)) then
                  bif eqb (bif true then (decide ((Vector.toList (shaSum (List.cons (0 : UInt8) (List.take ((Int.toNat (1000 : Int)) - (Int.toNat (0 : Int))) (List.drop (Int.toNat (0 : Int)) b))))) = (Vector.toList (shaSum (List.cons (0 : UInt8) (List.take ((Int.toNat (1000 : Int)) - (Int.toNat (0 : Int))) (List.drop (Int.toNat (0 : Int)) b))))))) else false) true then (bif eqb (bif true then (decide ((Vector.toList (shaSum (List.cons (1 : UInt8) ((Vector.toList x_1) ++ (Vector.toList y))))) = (Vector.toList (shaSum (List.cons (1 : UInt8) ((Vector.toList x_1) ++ (Vector.toList y))))))) else false) true then (if (List.length (shaPad (List.take ((Int.toNat (1000 : Int)) - (Int.toNat (0 : Int))) (List.drop (Int.toNat (0 : Int)) b)))) ≤ (1152921504606846976 : Nat) then
                        bif eqb (bif true then (decide ((shaPad (List.take ((Int.toNat (1000 : Int)) - (Int.toNat (0 : Int))) (List.drop (Int.toNat (0 : Int)) b))) = (shaPad (List.take ((Int.toNat (1000 : Int)) - (Int.toNat (0 : Int))) (List.drop (Int.toNat (0 : Int)) b))))) else false) true then (some true)
                          else (some false)
                      else none)
                      else (some false))
                    else (some false)
                else none
              else none)
              else (some false))
            else (some false)
        else none
      else none
    else none)
    else (if (List.length b) ≤ (1099511627776 : Nat) then
      if ((List.length b) ≤ (1099511627776 : Nat)) ∧ ((sha_Begin = shaInit) ∧ (shaK = shaK)) then
        bif eqb (decide ((Vector.toList (shaSum b)) = (Vector.toList (shaSum b)))) true then (bif eqb (bif true then (decide ((Vector.toList (shaSum (Vector.toList (shaSum b)))) = (Vector.toList (shaSum (Vector.toList (shaSum b)))))) else false) true then (if (List.length b) ≤ (1000000000000 : Nat) then
              if ((List.length b) ≤ (1000000000000 : Nat)) ∧ ((sha_Begin = shaInit) ∧ (shaK = shaK)) then
                bif eqb (bif true then (decide ((Vector.toList (shaSum (List.cons (0 : UInt8) b))) = (Vector.toList (shaSum (List.cons (0 : UInt8) b))))) else false) true then (bif eqb (bif true then (decide ((Vector.toList (shaSum (List.cons (1 : UInt8) ((Vector.toList x_1) ++ (Vector.toList y))))) = (Vector.toList (shaSum (List.cons (1 : UInt8) ((Vector.toList x_1) ++ (Vector.toList y))))))) else false) true then (if (List.length (shaPad b)) ≤ (1152921504606846976 : Nat) then
                      bif eqb (bif true then (decide ((shaPad b) = (shaPad b))) else false) true then (some true)
                        else (some false)
                    else none)
                    else (some false))
                  else (some false)
              else none
            else none)
            else (some false))
          else (some false)
      else none
    else none)) := by kernel_rfl
theorem law02_ShaTells_spec (b : List UInt8) (x y : Vector UInt8 32) : law02_ShaTells b x y = some true := by
  have fin : ∀ c : List UInt8, c.length ≤ 1000 → (shaPad c).length ≤ 1152921504606846976 := fun c hc => by have := shaPad_len c; omega
  rw [law02_ShaTells_q]
  by_cases h : 1000 < b.length
  · rw [bif_pos (by omega), if_pos (by omega), take_to]
    have hc : (List.take (Int.toNat 1000) b).length ≤ 1000 := by rw [List.length_take]; exact Nat.min_le_left _ _
    generalize List.take (Int.toNat 1000) b = c at hc
    have hf := fin c hc
    rw [if_pos (by omega), if_pos ⟨by omega, rfl, rfl⟩, if_pos (by omega), if_pos ⟨by omega, rfl, rfl⟩, if_pos hf]
    simp [eqb]
  · rw [bif_neg (by omega)]
    have hc : b.length ≤ 1000 := by omega
    have hf := fin b hc
    rw [if_pos (by omega), if_pos ⟨by omega, rfl, rfl⟩, if_pos (by omega), if_pos ⟨by omega, rfl, rfl⟩, if_pos hf]
    simp [eqb]

end
end Go.Proofs.YtkjillpcmffgoaaDoor.M

namespace Go.Proofs.YtkjillpcmffgoaaDoor.M
open Go
noncomputable section
set_option maxRecDepth 100000
noncomputable def law02_ShaTells_T : Tbl := [(27, [], ref02_New_c), (19, [], sha_Sum_c), (28, [], ref02_hSum_c), (23, [], sha_Twice_c), (29, [], ref02_hTwice_c), (22, [], sha_Leaf_c), (30, [], ref02_hLeaf_c), (31, [], sha_Pair_c), (32, [], ref02_hPair_c), (18, [], sha_Padded_c), (26, [], ref02_Padded_c), (20, [], ref00_Same_c), (17, [], law02_works_c)]
noncomputable def law02_ShaTells_C : CfgW := mkC Tryd.prog theG law02_ShaTells_T 56 0
def law02_ShaTells_lv : Nat → List Nat := fun i => []
noncomputable abbrev law02_ShaTells_b : Code := Tryd.f7.body.getD .skip
noncomputable abbrev law02_ShaTells_r : List ResultVar := Tryd.f7.results.toList
def law02_ShaTells_hs : List Nat := []

def law02_ShaTells_enc (r : Bool) : CallOut := ⟨.pv (.sc .b r), [], true, []⟩
theorem law02_ShaTells_e (b : List UInt8) (x_1 : Vector UInt8 32) (y : Vector UInt8 32) (Q : CallOut → Prop) : evalFnP law02_ShaTells_C law02_ShaTells_lv law02_ShaTells_r law02_ShaTells_hs law02_ShaTells_b [.pv (.sl .u8 b), .pv (.arr .u8 32 x_1), .pv (.arr .u8 32 y)] [] Q =
    (condP (decide ((1000 : Int) < (((List.length b) : Nat) : Int))) ((((0 : Int) ≤ (0 : Int)) ∧ (((0 : Int) ≤ (1000 : Int)) ∧ ((1000 : Int) ≤ (((List.length b) : Nat) : Int)))) ∧ (((List.length (List.take ((Int.toNat (1000 : Int)) - (Int.toNat (0 : Int))) (List.drop (Int.toNat (0 : Int)) b))) ≤ (1099511627776 : Nat)) ∧ ((((List.length (List.take ((Int.toNat (1000 : Int)) - (Int.toNat (0 : Int))) (List.drop (Int.toNat (0 : Int)) b))) ≤ (1099511627776 : Nat)) ∧ ((sha_Begin = shaInit) ∧ (shaK = shaK))) ∧ (condP (eqb (decide ((Vector.toList (shaSum (List.take ((Int.toNat (1000 : Int)) - (Int.toNat (0 : Int))) (List.drop (Int.toNat (0 : Int)) b)))) = (Vector.toList (shaSum (List.take ((Int.toNat (1000 : Int)) - (Int.toNat (0 : Int))) (List.drop (Int.toNat (0 : Int)) b)))))) true) (((List.length (List.take ((Int.toNat (1000 : Int)) - (Int.toNat (0 : Int))) (List.drop (Int.toNat (0 : Int)) b))) ≤ (1099511627776 : Nat)) ∧ ((((List.length (List.take ((Int.toNat (1000 : Int)) - (Int.toNat (0 : Int))) (List.drop (Int.toNat (0 : Int)) b))) ≤ (1099511627776 : Nat)) ∧ ((sha_Begin = shaInit) ∧ (shaK = shaK))) ∧ (condP (eqb (bif true then (decide ((Vector.toList (shaSum (Vector.toList (shaSum (List.take ((Int.toNat (1000 : Int)) - (Int.toNat (0 : Int))) (List.drop (Int.toNat (0 : Int)) b)))))) = (Vector.toList (shaSum (Vector.toList (shaSum (List.take ((Int.toNat (1000 : Int)) - (Int.toNat (0 : Int))) (List.drop (Int.toNat (0 : Int)) b)))))))) else false) true) (((List.length (List.take ((Int.toNat (1000 : Int)) - (Int.toNat (0 : Int))) (List.drop (Int.toNat (0 : Int)) b))) ≤ (1000000000000 : Nat)) ∧ ((((List.length (List.take ((Int.toNat (1000 : Int)) - (Int.toNat (0 : Int))) (List.drop (Int.toNat (0 : Int)) b))) ≤ (1000000000000 : Nat)) ∧ ((sha_Begin = shaInit) ∧ (shaK = shaK))) ∧ (condP (eqb (bif true then (decide ((Vector.toList (shaSum (List.cons (0 : UInt8) (List.take ((Int.toNat (1000 : Int)) - (Int.toNat (0 : Int))) (List.drop (Int.toNat (0 : Int)) b))))) = (Vector.toList (shaSum (List.cons (0 : UInt8) (List.take ((Int.toNat (1000 : Int)) - (Int.toNat (0 : Int))) (List.drop (Int.toNat (0 : Int)) b))))))) else false) true) (((sha_Begin = shaInit) ∧ (shaK = shaK)) ∧ (condP (eqb (bif true then (decide ((Vector.toList (shaSum (List.cons (1 : UInt8) ((Vector.toList x_1) ++ (Vector.toList y))))) = (Vector.toList (shaSum (List.cons (1 : UInt8) ((Vector.toList x_1) ++ (Vector.toList y))))))) else false) true) (((List.length (List.take ((Int.toNat (1000 : Int)) - (Int.toNat (0 : Int))) (List.drop (Int.toNat (0 : Int)) b))) ≤ (1099511627776 : Nat)) ∧ (((List.length (List.take ((Int.toNat (1000 : Int)) - (Int.toNat (0 : Int))) (List.drop (Int.toNat (0 : Int)) b))) ≤ (1099511627776 : Nat)) ∧ (((List.length (shaPad (List.take ((Int.toNat (1000 : Int)) - (Int.toNat (0 : Int))) (List.drop (Int.toNat (0 : Int)) b)))) ≤ (1152921504606846976 : Nat)) ∧ (condP (eqb (bif true then (decide ((shaPad (List.take ((Int.toNat (1000 : Int)) - (Int.toNat (0 : Int))) (List.drop (Int.toNat (0 : Int)) b))) = (shaPad (List.take ((Int.toNat (1000 : Int)) - (Int.toNat (0 : Int))) (List.drop (Int.toNat (0 : Int)) b))))) else false) true) (Q (law02_ShaTells_enc true)) (Q (law02_ShaTells_enc false)))))) (Q (law02_ShaTells_enc false)))) (Q (law02_ShaTells_enc false))))) (Q (law02_ShaTells_enc false))))) (Q (law02_ShaTells_enc false)))))) (((List.length b) ≤ (1099511627776 : Nat)) ∧ ((((List.length b) ≤ (1099511627776 : Nat)) ∧ ((sha_Begin = shaInit) ∧ (shaK = shaK))) ∧ (condP (eqb (decide ((Vector.toList (shaSum b)) = (Vector.toList (shaSum b)))) true) (((List.length b) ≤ (1099511627776 : Nat)) ∧ ((((List.length b) ≤ (1099511627776 : Nat)) ∧ ((sha_Begin = shaInit) ∧ (shaK = shaK))) ∧ (condP (eqb (bif true then (decide ((Vector.toList (shaSum (Vector.toList (shaSum b)))) = (Vector.toList (shaSum (Vector.toList (shaSum b)))))) else false) true) (((List.length b) ≤ (1000000000000 : Nat)) ∧ ((((List.length b) ≤ (1000000000000 : Nat)) ∧ ((sha_Begin = shaInit) ∧ (shaK = shaK))) ∧ (condP (eqb (bif true then (decide ((Vector.toList (shaSum (List.cons (0 : UInt8) b))) = (Vector.toList (shaSum (List.cons (0 : UInt8) b))))) else false) true) (((sha_Begin = shaInit) ∧ (shaK = shaK)) ∧ (condP (eqb (bif true then (decide ((Vector.toList (shaSum (List.cons (1 : UInt8) ((Vector.toList x_1) ++ (Vector.toList y))))) = (Vector.toList (shaSum (List.cons (1 : UInt8) ((Vector.toList x_1) ++ (Vector.toList y))))))) else false) true) (((List.length b) ≤ (1099511627776 : Nat)) ∧ (((List.length b) ≤ (1099511627776 : Nat)) ∧ (((List.length (shaPad b)) ≤ (1152921504606846976 : Nat)) ∧ (condP (eqb (bif true then (decide ((shaPad b) = (shaPad b))) else false) true) (Q (law02_ShaTells_enc true)) (Q (law02_ShaTells_enc false)))))) (Q (law02_ShaTells_enc false)))) (Q (law02_ShaTells_enc false))))) (Q (law02_ShaTells_enc false))))) (Q (law02_ShaTells_enc false)))))) := by kernel_rfl
theorem law02_ShaTells_w (b : List UInt8) (x_1 : Vector UInt8 32) (y : Vector UInt8 32) {r} {Q : CallOut → Prop} (h : law02_ShaTells b x_1 y = some r) (hQ : Q (law02_ShaTells_enc r)) : evalFnP law02_ShaTells_C law02_ShaTells_lv law02_ShaTells_r law02_ShaTells_hs law02_ShaTells_b [.pv (.sl .u8 b), .pv (.arr .u8 32 x_1), .pv (.arr .u8 32 y)] [] Q :=
  Eq.mpr (law02_ShaTells_e b x_1 y Q) (have h := (law02_ShaTells_q b x_1 y).symm.trans h; cond_ok h (fun h => ite_ok h fun hc0 h => ite_ok h fun hc1 h => ite_ok h fun hc2 h => cond_ok h (fun h => ⟨hc1, ⟨hc2, cond_ok h (fun h => ite_ok h fun hc3 h => ite_ok h fun hc4 h => cond_ok h (fun h => ⟨by decide +kernel, cond_ok h (fun h => ⟨hc1, ⟨hc1, ite_ok h fun hc5 h => cond_ok h (fun h => ret_ok (Q := Q) (e := law02_ShaTells_enc) h hQ) (fun h => ret_ok (Q := Q) (e := law02_ShaTells_enc) h hQ)⟩⟩) (fun h => ret_ok (Q := Q) (e := law02_ShaTells_enc) h hQ)⟩) (fun h => ret_ok (Q := Q) (e := law02_ShaTells_enc) h hQ)) (fun h => ret_ok (Q := Q) (e := law02_ShaTells_enc) h hQ)⟩⟩) (fun h => ret_ok (Q := Q) (e := law02_ShaTells_enc) h hQ)) (fun h => ite_ok h fun hc0 h => ite_ok h fun hc1 h => cond_ok h (fun h => ⟨hc0, ⟨hc1, cond_ok h (fun h => ite_ok h fun hc2 h => ite_ok h fun hc3 h => cond_ok h (fun h => ⟨by decide +kernel, cond_ok h (fun h => ⟨hc0, ⟨hc0, ite_ok h fun hc4 h => cond_ok h (fun h => ret_ok (Q := Q) (e := law02_ShaTells_enc) h hQ) (fun h => ret_ok (Q := Q) (e := law02_ShaTells_enc) h hQ)⟩⟩) (fun h => ret_ok (Q := Q) (e := law02_ShaTells_enc) h hQ)⟩) (fun h => ret_ok (Q := Q) (e := law02_ShaTells_enc) h hQ)) (fun h => ret_ok (Q := Q) (e := law02_ShaTells_enc) h hQ)⟩⟩) (fun h => ret_ok (Q := Q) (e := law02_ShaTells_enc) h hQ)))
def law02_ShaTells_c : Ans
  | [.pv (.sl .u8 b), .pv (.arr .u8 32 x_1), .pv (.arr .u8 32 y)], [] => some (none, law02_ShaTells_enc (true))
  | _, _ => none
theorem law02_ShaTells_tok : TblOK Tryd.prog theG law02_ShaTells_T := .cons ⟨by kernel_rfl, ref02_New_ok⟩ (.cons ⟨by kernel_rfl, sha_Sum_ok⟩ (.cons ⟨by kernel_rfl, ref02_hSum_ok⟩ (.cons ⟨by kernel_rfl, sha_Twice_ok⟩ (.cons ⟨by kernel_rfl, ref02_hTwice_ok⟩ (.cons ⟨by kernel_rfl, sha_Leaf_ok⟩ (.cons ⟨by kernel_rfl, ref02_hLeaf_ok⟩ (.cons ⟨by kernel_rfl, sha_Pair_ok⟩ (.cons ⟨by kernel_rfl, ref02_hPair_ok⟩ (.cons ⟨by kernel_rfl, sha_Padded_ok⟩ (.cons ⟨by kernel_rfl, ref02_Padded_ok⟩ (.cons ⟨by kernel_rfl, ref00_Same_ok⟩ (.cons ⟨by kernel_rfl, law02_works_ok⟩ (.nil)))))))))))))
theorem law02_ShaTells_ok : FnOK Tryd.prog theG 7 (unW law02_ShaTells_c) := by
  refine FnOK.ofC (T := law02_ShaTells_T) (nt := 56) (np := 0) (hs := law02_ShaTells_hs) (fn := Tryd.f7) (body := law02_ShaTells_b) law02_ShaTells_tok (by kernel_rfl) (by kernel_rfl) (by kernel_rfl) (by kernel_rfl) (c := law02_ShaTells_c) (lv := law02_ShaTells_lv) ?_
  intro xs mem p out h hp
  unfold law02_ShaTells_c at h
  split at h
  · cases h
    exact law02_ShaTells_w _ _ _ (law02_ShaTells_spec _ _ _) rfl
  · cases h
end
end Go.Proofs.YtkjillpcmffgoaaDoor.M

namespace Go.Proofs.YtkjillpcmffgoaaDoor
open Go Go.ChangeShapes Go.WideShapes Go.ChangeAt Go.RowKit
open Go.Proofs.YtkjillpcmffgoaaDoor
theorem law02_ShaTells_own : ownKnob Tryd.prog.godebug = none := by kernel_rfl
theorem law02_ShaTells_law : ∀ ys : List M.PV, M.FitL [.sl .u8, .arr .u8 32, .arr .u8 32] ys → ∃ p out, M.law02_ShaTells_c (ys.map .pv) [] = some (p, out) ∧ p.h ∧ out.val = .pv (.sc .b true) := by
  rintro ys ⟨_, _, rfl, ⟨x0, rfl, hx0, lx0⟩, ⟨_, _, rfl, ⟨x1, rfl, hx1⟩, ⟨_, _, rfl, ⟨x2, rfl, hx2⟩, rfl⟩⟩⟩
  exact ⟨_, _, rfl, trivial, rfl⟩
set_option maxRecDepth 100000 in
theorem law02_ShaTells_lifted (os : Os) (started : os.Started) (H : Type) (enc : TypeId × Value → H) :
    ReturnsInHanded {} Tryd.checked os 7 .any (fun w args => (Rows.shaTellsSpec.pre enc Tryd.prog Tryd.f7 [] false w args ∧ laidMetH Tryd.prog Rows.shaTellsRow.laid w) ∧ sizedMet enc Tryd.prog Tryd.f7 (OpenSpec.ofChange Rows.shaTellsSpec) false w args)
      (Rows.shaTellsSpec.post enc Tryd.prog Tryd.f7 false true false false) := by
  refine returnsInHanded_of_change_and (C := Tryd.checked) (X := fun w _ => laidMetH Tryd.prog Rows.shaTellsRow.laid w) (fun _ _ _ hh h => h.of_heap hh) law02_ShaTells_own started (by kernel_rfl) (by kernel_rfl)
    (ChangeSpec.witness_shaped (enc := enc) (C := Tryd.checked) (os := os) (X := fun w _ => laidMetH Tryd.prog Rows.shaTellsRow.laid w) false (World.laidAll Tryd.prog os Rows.shaTellsRow.laid) #[.slice none 0 0, .agg (Array.replicate 32 (.int .u8 0)), .agg (Array.replicate 32 (.int .u8 0))] 8 (World.laidAll_os _ _ _)
      (World.shaped_of_ZipB (by kernel_rfl) (by kernel_rfl)) (by kernel_rfl) (by kernel_rfl) (by kernel_rfl)
      (by rw [MakeChecks.laidMetH_plain _ _ _ (by kernel_rfl)]; exact laidMet_laidAll _ (by kernel_rfl) (by kernel_rfl))) ?_
  intro W base args ds gs before hval hW _ hsz hL _
  exact M.law_contract (ss := [.sl .u8, .arr .u8 32, .arr .u8 32]) (G := M.theG) (c := M.law02_ShaTells_c) (tb := 4) rfl (fun ds h => by
      match ds, h with
      | [d0, d1, d2], _ => rfl) (by kernel_rfl) (by kernel_rfl) (by kernel_rfl) (by kernel_rfl) (by kernel_rfl) M.law02_ShaTells_ok law02_ShaTells_law hval hW hsz (M.globs (by rwa [MakeChecks.laidMetH_plain _ _ _ (by kernel_rfl)] at hL))
theorem shaTells_row : Rows.ShaTellsSaid :=
  OpenClaim.holds_of_wide 7 Tryd.f7 rfl rfl rfl rfl rfl rfl rfl ⟨rfl, rfl, rfl, rfl, rfl⟩ rfl rfl rfl rfl rfl (by kernel_rfl) (by kernel_rfl) (by kernel_rfl)
    (of_decide_eq_true (by kernel_rfl)) (by unfold Func.isWrapper; first | (rw [if_pos (by decide +kernel)]; kernel_rfl) | (rw [if_neg (by decide +kernel)]; exact ⟨rfl, rfl⟩))
    (fun os started H enc _ => law02_ShaTells_lifted os started H enc)
theorem shaTells_card : Rows.ShaTellsCardSaid :=
  Claim7.holds_tied_plain_at .later [] [.data] true (true, "309ffbb7a45fc8f63b017b00e1d958320a56bfcbda7dd92db1a0903d53958375") false shaTells_row (fun _ h => by cases h) (by kernel_rfl) (fun _ h => by cases h) shaTells_row_tie rfl ⟨rfl, rfl⟩ (by kernel_rfl) rfl
    (fun f fn hf hfn => by
      obtain rfl : f = 7 := Option.some.inj ((show Tryd.prog.funcNamed "moneyer/moneyerlaw02.ShaTells" = some 7 by kernel_rfl).symm.trans hf) |>.symm
      obtain rfl : fn = Tryd.f7 := (Option.some.inj ((show Tryd.prog.funcs[7]? = some Tryd.f7 by kernel_rfl).symm.trans hfn)).symm
      exact ⟨by kernel_rfl, fun j t ht => by
        have hp : Tryd.f7.params = #[29, 32, 32] := by kernel_rfl
        rw [hp] at ht
        have hm : t ∈ [29, 32, 32] := by simpa using Array.mem_of_getElem? ht
        have hall : ([29, 32, 32].all fun u => !Tryd.prog.wantsStandIn u) = true := by kernel_rfl
        exact (show Tryd.prog.wantsStandIn t = false by simpa using List.all_eq_true.1 hall t hm)⟩)
    (by kernel_rfl)
#print axioms shaTells_card
end Go.Proofs.YtkjillpcmffgoaaDoor
