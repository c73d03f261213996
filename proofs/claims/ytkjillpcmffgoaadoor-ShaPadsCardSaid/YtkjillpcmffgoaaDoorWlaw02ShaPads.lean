/- The statement of ShaPads: for every input the law returns true, and each argument reads behind the call as it read before. No condition. -/
import Derived.KernelRfl
import Derived.Test.YtkjillpcmffgoaaDoorProg
import Derived.Test.YtkjillpcmffgoaaDoorRows
import Derived.Test.YtkjillpcmffgoaaDoorCards
import Derived.Test.YtkjillpcmffgoaaDoorTie
import Derived.WalkKit
import Derived.ProofKit
import Derived.Handy
import Derived.Lay
import Derived.SizedLaws
import Derived.SevenTiedAt
import Derived.Test.YtkjillpcmffgoaaDoorLd
import Derived.Test.YtkjillpcmffgoaaDoorFsha
import Derived.Test.YtkjillpcmffgoaaDoorFref00
import Derived.Test.YtkjillpcmffgoaaDoorFlaw02
import Derived.Test.YtkjillpcmffgoaaDoorSwords
import Derived.Test.YtkjillpcmffgoaaDoorSshaS
import Derived.Test.YtkjillpcmffgoaaDoorSshaK
import Derived.Test.YtkjillpcmffgoaaDoorSKL
set_option linter.unusedVariables false
set_option linter.unusedSimpArgs false
set_option autoImplicit false
namespace Go.Proofs.YtkjillpcmffgoaaDoor.M
open Go
noncomputable section
/-- moneyer/moneyerlaw02.ShaPads -/
def law02_ShaPads (a : List UInt8) (b : List UInt8) : Option (Bool) :=
  bif decide ((1000 : Int) < (((List.length a) : Nat) : Int)) then (if ((0 : Int) ≤ (0 : Int)) ∧ (((0 : Int) ≤ (1000 : Int)) ∧ ((1000 : Int) ≤ (((List.length a) : Nat) : Int))) then
      bif decide ((1000 : Int) < (((List.length b) : Nat) : Int)) then (if ((0 : Int) ≤ (0 : Int)) ∧ (((0 : Int) ≤ (1000 : Int)) ∧ ((1000 : Int) ≤ (((List.length b) : Nat) : Int))) then
          if (List.length (List.take ((Int.toNat (1000 : Int)) - (Int.toNat (0 : Int))) (List.drop (Int.toNat (0 : Int)) a))) ≤ (1099511627776 : Nat) then
            if (List.length (List.take ((Int.toNat (1000 : Int)) - (Int.toNat (0 : Int))) (List.drop (Int.toNat (0 : Int)) b))) ≤ (1099511627776 : Nat) then
              bif eqb (decide ((((List.length (shaPad (List.take ((Int.toNat (1000 : Int)) - (Int.toNat (0 : Int))) (List.drop (Int.toNat (0 : Int)) a)))) : Nat) : Int) < (w64 ((((List.length (List.take ((Int.toNat (1000 : Int)) - (Int.toNat (0 : Int))) (List.drop (Int.toNat (0 : Int)) a))) : Nat) : Int) + (9 : Int))))) false then (bif eqb (bif false then true else (!(decide ((Int.tmod (((List.length (shaPad (List.take ((Int.toNat (1000 : Int)) - (Int.toNat (0 : Int))) (List.drop (Int.toNat (0 : Int)) a)))) : Nat) : Int) (64 : Int)) = (0 : Int))))) false then (if ((0 : Int) ≤ (0 : Int)) ∧ (((0 : Int) ≤ (((List.length (List.take ((Int.toNat (1000 : Int)) - (Int.toNat (0 : Int))) (List.drop (Int.toNat (0 : Int)) a))) : Nat) : Int)) ∧ ((((List.length (List.take ((Int.toNat (1000 : Int)) - (Int.toNat (0 : Int))) (List.drop (Int.toNat (0 : Int)) a))) : Nat) : Int) ≤ (((List.length (shaPad (List.take ((Int.toNat (1000 : Int)) - (Int.toNat (0 : Int))) (List.drop (Int.toNat (0 : Int)) a)))) : Nat) : Int))) then
                    if (List.length (List.take ((Int.toNat (((List.length (List.take ((Int.toNat (1000 : Int)) - (Int.toNat (0 : Int))) (List.drop (Int.toNat (0 : Int)) a))) : Nat) : Int)) - (Int.toNat (0 : Int))) (List.drop (Int.toNat (0 : Int)) (shaPad (List.take ((Int.toNat (1000 : Int)) - (Int.toNat (0 : Int))) (List.drop (Int.toNat (0 : Int)) a)))))) ≤ (1152921504606846976 : Nat) then
                      bif eqb (bif false then true else (!(decide ((List.take ((Int.toNat (((List.length (List.take ((Int.toNat (1000 : Int)) - (Int.toNat (0 : Int))) (List.drop (Int.toNat (0 : Int)) a))) : Nat) : Int)) - (Int.toNat (0 : Int))) (List.drop (Int.toNat (0 : Int)) (shaPad (List.take ((Int.toNat (1000 : Int)) - (Int.toNat (0 : Int))) (List.drop (Int.toNat (0 : Int)) a))))) = (List.take ((Int.toNat (1000 : Int)) - (Int.toNat (0 : Int))) (List.drop (Int.toNat (0 : Int)) a)))))) false then (if ((0 : Int) ≤ (((List.length (List.take ((Int.toNat (1000 : Int)) - (Int.toNat (0 : Int))) (List.drop (Int.toNat (0 : Int)) a))) : Nat) : Int)) ∧ ((((List.length (List.take ((Int.toNat (1000 : Int)) - (Int.toNat (0 : Int))) (List.drop (Int.toNat (0 : Int)) a))) : Nat) : Int) < (((List.length (shaPad (List.take ((Int.toNat (1000 : Int)) - (Int.toNat (0 : Int))) (List.drop (Int.toNat (0 : Int)) a)))) : Nat) : Int)) then
                          bif bif false then true else (!(decide ((List.getD (shaPad (List.take ((Int.toNat (1000 : Int)) - (Int.toNat (0 : Int))) (List.drop (Int.toNat (0 : Int)) a))) (Int.toNat (((List.length (List.take ((Int.toNat (1000 : Int)) - (Int.toNat (0 : Int))) (List.drop (Int.toNat (0 : Int)) a))) : Nat) : Int)) (0 : UInt8)) = (128 : UInt8)))) then (some false)
                            else (if (List.length (shaPad (List.take ((Int.toNat (1000 : Int)) - (Int.toNat (0 : Int))) (List.drop (Int.toNat (0 : Int)) a)))) ≤ (1152921504606846976 : Nat) then
                              if (List.length (List.take ((Int.toNat (1000 : Int)) - (Int.toNat (0 : Int))) (List.drop (Int.toNat (0 : Int)) a))) ≤ (1152921504606846976 : Nat) then
                                bif eqb (decide ((decide ((shaPad (List.take ((Int.toNat (1000 : Int)) - (Int.toNat (0 : Int))) (List.drop (Int.toNat (0 : Int)) a))) = (shaPad (List.take ((Int.toNat (1000 : Int)) - (Int.toNat (0 : Int))) (List.drop (Int.toNat (0 : Int)) b))))) = (decide ((List.take ((Int.toNat (1000 : Int)) - (Int.toNat (0 : Int))) (List.drop (Int.toNat (0 : Int)) a)) = (List.take ((Int.toNat (1000 : Int)) - (Int.toNat (0 : Int))) (List.drop (Int.toNat (0 : Int)) b)))))) true then (some true)
                                  else (some false)
                              else none
                            else none)
                        else none)
                        else (some false)
                    else none
                  else none)
                  else (some false))
                else (some false)
            else none
          else none
        else none)
        else (if (List.length (List.take ((Int.toNat (1000 : Int)) - (Int.toNat (0 : Int))) (List.drop (Int.toNat (0 : Int)) a))) ≤ (1099511627776 : Nat) then
          if (List.length b) ≤ (1099511627776 : Nat) then
            bif eqb (decide ((((List.length (shaPad (List.take ((Int.toNat (1000 : Int)) - (Int.toNat (0 : Int))) (List.drop (Int.toNat (0 : Int)) a)))) : Nat) : Int) < (w64 ((((List.length (List.take ((Int.toNat (1000 : Int)) - (Int.toNat (0 : Int))) (List.drop (Int.toNat (0 : Int)) a))) : Nat) : Int) + (9 : Int))))) false then (bif eqb (bif false then true else (!(decide ((Int.tmod (((List.length (shaPad (List.take ((Int.toNat (1000 : Int)) - (Int.toNat (0 : Int))) (List.drop (Int.toNat (0 : Int)) a)))) : Nat) : Int) (64 : Int)) = (0 : Int))))) false then (if ((0 : Int) ≤ (0 : Int)) ∧ (((0 : Int) ≤ (((List.length (List.take ((Int.toNat (1000 : Int)) - (Int.toNat (0 : Int))) (List.drop (Int.toNat (0 : Int)) a))) : Nat) : Int)) ∧ ((((List.length (List.take ((Int.toNat (1000 : Int)) - (Int.toNat (0 : Int))) (List.drop (Int.toNat (0 : Int)) a))) : Nat) : Int) ≤ (((List.length (shaPad (List.take ((Int.toNat (1000 : Int)) - (Int.toNat (0 : Int))) (List.drop (Int.toNat (0 : Int)) a)))) : Nat) : Int))) then
                  if (List.length (List.take ((Int.toNat (((List.length (List.take ((Int.toNat (1000 : Int)) - (Int.toNat (0 : Int))) (List.drop (Int.toNat (0 : Int)) a))) : Nat) : Int)) - (Int.toNat (0 : Int))) (List.drop (Int.toNat (0 : Int)) (shaPad (List.take ((Int.toNat (1000 : Int)) - (Int.toNat (0 : Int))) (List.drop (Int.toNat (0 : Int)) a)))))) ≤ (1152921504606846976 : Nat) then
                    bif eqb (bif false then true else (!(decide ((List.take ((Int.toNat (((List.length (List.take ((Int.toNat (1000 : Int)) - (Int.toNat (0 : Int))) (List.drop (Int.toNat (0 : Int)) a))) : Nat) : Int)) - (Int.toNat (0 : Int))) (List.drop (Int.toNat (0 : Int)) (shaPad (List.take ((Int.toNat (1000 : Int)) - (Int.toNat (0 : Int))) (List.drop (Int.toNat (0 : Int)) a))))) = (List.take ((Int.toNat (1000 : Int)) - (Int.toNat (0 : Int))) (List.drop (Int.toNat (0 : Int)) a)))))) false then (if ((0 : Int) ≤ (((List.length (List.take ((Int.toNat (1000 : Int)) - (Int.toNat (0 : Int))) (List.drop (Int.toNat (0 : Int)) a))) : Nat) : Int)) ∧ ((((List.length (List.take ((Int.toNat (1000 : Int)) - (Int.toNat (0 : Int))) (List.drop (Int.toNat (0 : Int)) a))) : Nat) : Int) < (((List.length (shaPad (List.take ((Int.toNat (1000 : Int)) - (Int.toNat (0 : Int))) (List.drop (Int.toNat (0 : Int)) a)))) : Nat) : Int)) then
                        bif bif false then true else (!(decide ((List.getD (shaPad (List.take ((Int.toNat (1000 : Int)) - (Int.toNat (0 : Int))) (List.drop (Int.toNat (0 : Int)) a))) (Int.toNat (((List.length (List.take ((Int.toNat (1000 : Int)) - (Int.toNat (0 : Int))) (List.drop (Int.toNat (0 : Int)) a))) : Nat) : Int)) (0 : UInt8)) = (128 : UInt8)))) then (some false)
                          else (if (List.length (shaPad (List.take ((Int.toNat (1000 : Int)) - (Int.toNat (0 : Int))) (List.drop (Int.toNat (0 : Int)) a)))) ≤ (1152921504606846976 : Nat) then
                            if (List.length (List.take ((Int.toNat (1000 : Int)) - (Int.toNat (0 : Int))) (List.drop (Int.toNat (0 : Int)) a))) ≤ (1152921504606846976 : Nat) then
                              bif eqb (decide ((decide ((shaPad (List.take ((Int.toNat (1000 : Int)) - (Int.toNat (0 : Int))) (List.drop (Int.toNat (0 : Int)) a))) = (shaPad b))) = (decide ((List.take ((Int.toNat (1000 : Int)) - (Int.toNat (0 : Int))) (List.drop (Int.toNat (0 : Int)) a)) = b)))) true then (some true)
                                else (some false)
                            else none
                          else none)
                      else none)
                      else (some false)
                  else none
                else none)
                else (some false))
              else (some false)
          else none
        else none)
    else none)
    else (bif decide ((1000 : Int) < (((List.length b) : Nat) : Int)) then (if ((0 : Int) ≤ (0 : Int)) ∧ (((0 : Int) ≤ (1000 : Int)) ∧ ((1000 : Int) ≤ (((List.length b) : Nat) : Int))) then
        if (List.length a) ≤ (1099511627776 : Nat) then
          if (List.length (List.take ((Int.toNat (1000 : Int)) - (Int.toNat (0 : Int))) (List.drop (Int.toNat (0 : Int)) b))) ≤ (1099511627776 : Nat) then
            bif eqb (decide ((((List.length (shaPad a)) : Nat) : Int) < (w64 ((((List.length a) : Nat) : Int) + (9 : Int))))) false then (bif eqb (bif false then true else (!(decide ((Int.tmod (((List.length (shaPad a)) : Nat) : Int) (64 : Int)) = (0 : Int))))) false then (if ((0 : Int) ≤ (0 : Int)) ∧ (((0 : Int) ≤ (((List.length a) : Nat) : Int)) ∧ ((((List.length a) : Nat) : Int) ≤ (((List.length (shaPad a)) : Nat) : Int))) then
                  if (List.length (List.take ((Int.toNat (((List.length a) : Nat) : Int)) - (Int.toNat (0 : Int))) (List.drop (Int.toNat (0 : Int)) (shaPad a)))) ≤ (1152921504606846976 : Nat) then
                    bif eqb (bif false then true else (!(decide ((List.take ((Int.toNat (((List.length a) : Nat) : Int)) - (Int.toNat (0 : Int))) (List.drop (Int.toNat (0 : Int)) (shaPad a))) = a)))) false then (if ((0 : Int) ≤ (((List.length a) : Nat) : Int)) ∧ ((((List.length a) : Nat) : Int) < (((List.length (shaPad a)) : Nat) : Int)) then
                        bif bif false then true else (!(decide ((List.getD (shaPad a) (Int.toNat (((List.length a) : Nat) : Int)) (0 : UInt8)) = (128 : UInt8)))) then (some false)
                          else (if (List.length (shaPad a)) ≤ (1152921504606846976 : Nat) then
                            if (List.length a) ≤ (1152921504606846976 : Nat) then
                              bif eqb (decide ((decide ((shaPad a) = (shaPad (List.take ((Int.toNat (1000 : Int)) - (Int.toNat (0 : Int))) (List.drop (Int.toNat (0 : Int)) b))))) = (decide (a = (List.take ((Int.toNat (1000 : Int)) - (Int.toNat (0 : Int))) (List.drop (Int.toNat (0 : Int)) b)))))) true then (some true)
                                else (some false)
                            else none
                          else none)
                      else none)
                      else (some false)
                  else none
                else none)
                else (some false))
              else (some false)
          else none
        else none
      else none)
      else (if (List.length a) ≤ (1099511627776 : Nat) then
        if (List.length b) ≤ (1099511627776 : Nat) then
          bif eqb (decide ((((List.length (shaPad a)) : Nat) : Int) < (w64 ((((List.length a) : Nat) : Int) + (9 : Int))))) false then (bif eqb (bif false then true else (!(decide ((Int.tmod (((List.length (shaPad a)) : Nat) : Int) (64 : Int)) = (0 : Int))))) false then (if ((0 : Int) ≤ (0 : Int)) ∧ (((0 : Int) ≤ (((List.length a) : Nat) : Int)) ∧ ((((List.length a) : Nat) : Int) ≤ (((List.length (shaPad a)) : Nat) : Int))) then
                if (List.length (List.take ((Int.toNat (((List.length a) : Nat) : Int)) - (Int.toNat (0 : Int))) (List.drop (Int.toNat (0 : Int)) (shaPad a)))) ≤ (1152921504606846976 : Nat) then
                  bif eqb (bif false then true else (!(decide ((List.take ((Int.toNat (((List.length a) : Nat) : Int)) - (Int.toNat (0 : Int))) (List.drop (Int.toNat (0 : Int)) (shaPad a))) = a)))) false then (if ((0 : Int) ≤ (((List.length a) : Nat) : Int)) ∧ ((((List.length a) : Nat) : Int) < (((List.length (shaPad a)) : Nat) : Int)) then
                      bif bif false then true else (!(decide ((List.getD (shaPad a) (Int.toNat (((List.length a) : Nat) : Int)) (0 : UInt8)) = (128 : UInt8)))) then (some false)
                        else (if (List.length (shaPad a)) ≤ (1152921504606846976 : Nat) then
                          if (List.length a) ≤ (1152921504606846976 : Nat) then
                            bif eqb (decide ((decide ((shaPad a) = (shaPad b))) = (decide (a = b)))) true then (some true)
                              else (some false)
                          else none
                        else none)
                    else none)
                    else (some false)
                else none
              else none)
              else (some false))
            else (some false)
        else none
      else none))
theorem law02_ShaPads_q (a : List UInt8) (b : List UInt8) : law02_ShaPads a b = (bif decide ((1000 : Int) < (((List.length a) : Nat) : Int)) then (if ((0 : Int) ≤ (0 : Int)) ∧ (((0 : Int) ≤ (1000 : Int)) ∧ ((1000 : Int) ≤ (((List.length a) : Nat) : Int))) then
      bif decide ((1000 : Int) < (((List.length b) : Nat) : Int)) then (if ((0 : Int) ≤ (0 : Int)) ∧ (((0 : Int) ≤ (1000 : Int)) ∧ ((1000 : Int) ≤ (((List.length b) : Nat) : Int))) then
          if (List.length (List.take ((Int.toNat (1000 : Int)) - (Int.toNat (0 : Int))) (List.drop (Int.toNat (0 : Int)) a))) ≤ (1099511627776 : Nat) then
            if (List.length (List.take ((Int.toNat (1000 : Int)) - (Int.toNat (0 : Int))) (List.drop (Int.toNat (0 : Int)) b))) ≤ (1099511627776 : Nat) then
              bif eqb (decide ((((List.length (shaPad (List.take ((Int.toNat (1000 : Int)) - (Int.toNat (0 : Int))) (List.drop (Int.toNat (0 : Int)) a)))) : Nat) : Int) < (w64 ((((List.length (List.take ((Int.toNat (1000 : Int)) - (Int.toNat (0 : Int))) (List.drop (Int.toNat (0 : Int)) a))) : Nat) : Int) + (9 : Int))))) false then (bif eqb (bif false then true else (!(decide ((Int.tmod (((List.length (shaPad (List.take ((Int.toNat (1000 : Int)) - (Int.toNat (0 : Int))) (List.drop (Int.toNat (0 : Int)) a)))) : Nat) : Int) (64 : Int)) = (0 : Int))))) false then (if ((0 : Int) ≤ (0 : Int)) ∧ (((0 : Int) ≤ (((List.length (List.take ((Int.toNat (1000 : Int)) - (Int.toNat (0 : Int))) (List.drop (Int.toNat (0 : Int)) a))) : Nat) : Int)) ∧ ((((List.length (List.take ((Int.toNat (1000 : Int)) - (Int.toNat (0 : Int))) (List.drop (Int.toNat (0 : Int)) a))) : Nat) : Int) ≤ (((List.length (shaPad (List.take ((Int.toNat (1000 : Int)) - (Int.toNat (0 : Int))) (List.drop (Int.toNat (0 : Int)) a)))) : Nat) : Int))) then
                    if (List.length (List.take ((Int.toNat (((List.length (List.take ((Int.toNat (1000 : Int)) - (Int.toNat (0 : Int))) (List.drop (Int.toNat (0 : Int)) a))) : Nat) : Int)) - (Int.toNat (0 : Int))) (List.drop (Int.toNat (0 : Int)) (shaPad (List.take ((Int.toNat (1000 : Int)) - (Int.toNat (0 : Int))) (List.drop (Int.toNat (0 : Int)) a)))))) ≤ (1152921504606846976 : Nat) then
                      bif eqb (bif false then true else (!(decide ((List.take ((Int.toNat (((List.length (List.take ((Int.toNat (1000 : Int)) - (Int.toNat (0 : Int))) (List.drop (Int.toNat (0 : Int)) a))) : Nat) : Int)) - (Int.toNat (0 : Int))) (List.drop (Int.toNat (0 : Int)) (shaPad (List.take ((Int.toNat (1000 : Int)) - (Int.toNat (0 : Int))) (List.drop (Int.toNat (0 : Int)) a))))) = (List.take ((Int.toNat (1000 : Int)) - (Int.toNat (0 : Int))) (List.drop (Int.toNat (0 : Int)) a)))))) false then (if ((0 : Int) ≤ (((List.length (List.take ((Int.toNat (1000 : Int)) - (Int.toNat (0 : Int))) (List.drop (Int.toNat (0 : Int)) a))) : Nat) : Int)) ∧ ((((List.length (List.take ((Int.toNat (1000 : Int)) - (Int.toNat (0 : Int))) (List.drop (Int.toNat (0 : Int)) a))) : Nat) : Int) < (((List.length (shaPad (List.take ((Int.toNat (1000 : Int)) - (Int.toNat (0 : Int))) (List.drop (Int.toNat (0 : Int)) a)))) : Nat) : Int)) then
                          bif bif false then true else (!(decide ((List.getD (shaPad (List.take ((Int.toNat (1000 : Int)) - (Int.toNat (0 : Int))) (List.drop (Int.toNat (0 : Int)) a))) (Int.toNat (((List.length (List.take ((Int.toNat (1000 : Int)) - (Int.toNat (0 : Int))) (List.drop (Int.toNat (0 : Int)) a))) : Nat) : Int)) (0 : UInt8)) = (128 : UInt8)))) then (some false)
                            else (if (List.length (shaPad (List.take ((Int.toNat (1000 : Int)) - (Int.toNat (0 : Int))) (List.drop (Int.toNat (0 : Int)) a)))) ≤ (1152921504606846976 : Nat) then
                              if (List.length (List.take ((Int.toNat (1000 : Int)) - (Int.toNat (0 : Int))) (List.drop (Int.toNat (0 : Int)) a))) ≤ (1152921504606846976 : Nat) then
                                bif eqb (decide ((decide ((shaPad (List.take ((Int.toNat (1000 : Int)) - (Int.toNat (0 : Int))) (List.drop (Int.toNat (0 : Int)) a))) = (shaPad (List.take ((Int.toNat (1000 : Int)) - (Int.toNat (0 : Int))) (List.drop (Int.toNat (0 : Int)) b))))) = (decide ((List.take ((Int.toNat (1000 : Int)) - (Int.toNat (0 : Int))) (List.drop (Int.toNat (0 : Int)) a)) = (List.take ((Int.toNat (1000 : Int)) - (Int.toNat (0 : Int))) (List.drop (Int.toNat (0 : Int)) b)))))) true then (some true)
                                  else (some false)
                              else none
                            else none)
                        else none)
                        else (some false)
                    else none
                  else none)
                  else (some false))
                else (some false)
            else none
          else none
        else none)
        else (if (List.length (List.take ((Int.toNat (1000 : Int)) - (Int.toNat (0 : Int))) (List.drop (Int.toNat (0 : Int)) a))) ≤ (1099511627776 : Nat) then
          if (List.length b) ≤ (1099511627776 : Nat) then
            bif eqb (decide ((((List.length (shaPad (List.take ((Int.toNat (1000 : Int)) - (Int.toNat (0 : Int))) (List.drop (Int.toNat (0 : Int)) a)))) : Nat) : Int) < (w64 ((((List.length (List.take ((Int.toNat (1000 : Int)) - (Int.toNat (0 : Int))) (List.drop (Int.toNat (0 : Int)) a))) : Nat) : Int) + (9 : Int))))) false then (bif eqb (bif false then true else (!(decide ((Int.tmod (((List.length (shaPad (List.take ((Int.toNat (1000 : Int)) - (Int.toNat (0 : Int))) (List.drop (Int.toNat (0 : Int)) a)))) : Nat) : Int) (64 : Int)) = (0 : Int))))) false then (if ((0 : Int) ≤ (0 : Int)) ∧ (((0 : Int) ≤ (((List.length (List.take ((Int.toNat (1000 : Int)) - (Int.toNat (0 : Int))) (List.drop (Int.toNat (0 : Int)) a))) : Nat) : Int)) ∧ ((((List.length (List.take ((Int.toNat (1000 : Int)) - (Int.toNat (0 : Int))) (List.drop (Int.toNat (0 : Int)) a))) : Nat) : Int) ≤ (((List.length (shaPad (List.take ((Int.toNat (1000 : Int)) - (Int.toNat (0 : Int))) (List.drop (Int.toNat (0 : Int)) a)))) : Nat) : Int))) then
                  if (List.length (List.take ((Int.toNat (((List.length (List.take ((Int.toNat (1000 : Int)) - (Int.toNat (0 : Int))) (List.drop (Int.toNat (0 : Int)) a))) : Nat) : Int)) - (Int.toNat (0 : Int))) (List.drop (Int.toNat (0 : Int)) (shaPad (List.take ((Int.toNat (1000 : Int)) - (Int.toNat (0 : Int))) (List.drop (Int.toNat (0 : Int)) a)))))) ≤ (1152921504606846976 : Nat) then
                    bif eqb (bif false then true else (!(decide ((List.take ((Int.toNat (((List.length (List.take ((Int.toNat (1000 : Int)) - (Int.toNat (0 : Int))) (List.drop (Int.toNat (0 : Int)) a))) : Nat) : Int)) - (Int.toNat (0 : Int))) (List.drop (Int.toNat (0 : Int)) (shaPad (List.take ((Int.toNat (1000 : Int)) - (Int.toNat (0 : Int))) (List.drop (Int.toNat (0 : Int)) a))))) = (List.take ((Int.toNat (1000 : Int)) - (Int.toNat (0 : Int))) (List.drop (Int.toNat (0 : Int)) a)))))) false then (if ((0 : Int) ≤ (((List.length (List.take ((Int.toNat (1000 : Int)) - (Int.toNat (0 : Int))) (List.drop (Int.toNat (0 : Int)) a))) : Nat) : Int)) ∧ ((((List.length (List.take ((Int.toNat (1000 : Int)) - (Int.toNat (0 : Int))) (List.drop (Int.toNat (0 : Int)) a))) : Nat) : Int) < (((List.length (shaPad (List.take ((Int.toNat (1000 : Int)) - (Int.toNat (0 : Int))) (List.drop (Int.toNat (0 : Int)) a)))) : Nat) : Int)) then
                        bif bif false then true else (!(decide ((List.getD (shaPad (List.take ((Int.toNat (1000 : Int)) - (Int.toNat (0 : Int))) (List.drop (Int.toNat (0 : Int)) a))) (Int.toNat (((List.length (List.take ((Int.toNat (1000 : Int)) - (Int.toNat (0 : Int))) (List.drop (Int.toNat (0 : Int)) a))) : Nat) : Int)) (0 : UInt8)) = (128 : UInt8)))) then (some false)
                          else (if (List.length (shaPad (List.take ((Int.toNat (1000 : Int)) - (Int.toNat (0 : Int))) (List.drop (Int.toNat (0 : Int)) a)))) ≤ (1152921504606846976 : Nat) then
                            if (List.length (List.take ((Int.toNat (1000 : Int)) - (Int.toNat (0 : Int))) (List.drop (Int.toNat (0 : Int)) a))) ≤ (1152921504606846976 : Nat) then
                              bif eqb (decide ((decide ((shaPad (List.take ((Int.toNat (1000 : Int)) - (Int.toNat (0 : Int))) (List.drop (Int.toNat (0 : Int)) a))) = (shaPad b))) = (decide ((List.take ((Int.toNat (1000 : Int)) - (Int.toNat (0 : Int))) (List.drop (Int.toNat (0 : Int)) a)) = b)))) true then (some true)
                                else (some false)
                            else none
                          else none)
                      else none)
                      else (some false)
                  else none
                else none)
                else (some false))
              else (some false)
          else none
        else none)
    else none)
    else (bif decide ((1000 : Int) < (((List.length b) : Nat) : Int)) then (if ((0 : Int) ≤ (0 : Int)) ∧ (((0 : Int) ≤ (1000 : Int)) ∧ ((1000 : Int) ≤ (((List.length b) : Nat) : Int))) then
        if (List.length a) ≤ (1099511627776 : Nat) then
          if (List.length (List.take ((Int.toNat (1000 : Int)) - (Int.toNat (0 : Int))) (List.drop (Int.toNat (0 : Int)) b))) ≤ (1099511627776 : Nat) then
            bif eqb (decide ((((List.length (shaPad a)) : Nat) : Int) < (w64 ((((List.length a) : Nat) : Int) + (9 : Int))))) false then (bif eqb (bif false then true else (!(decide ((Int.tmod (((List.length (shaPad a)) : Nat) : Int) (64 : Int)) = (0 : Int))))) false then (if ((0 : Int) ≤ (0 : Int)) ∧ (((0 : Int) ≤ (((List.length a) : Nat) : Int)) ∧ ((((List.length a) : Nat) : Int) ≤ (((List.length (shaPad a)) : Nat) : Int))) then
                  if (List.length (List.take ((Int.toNat (((List.length a) : Nat) : Int)) - (Int.toNat (0 : Int))) (List.drop (Int.toNat (0 : Int)) (shaPad a)))) ≤ (1152921504606846976 : Nat) then
                    bif eqb (bif false then true else (!(decide ((List.take ((Int.toNat (((List.length a) : Nat) : Int)) - (Int.toNat (0 : Int))) (List.drop (Int.toNat (0 : Int)) (shaPad a))) = a)))) false then (if ((0 : Int) ≤ (((List.length a) : Nat) : Int)) ∧ ((((List.length a) : Nat) : Int) < (((List.length (shaPad a)) : Nat) : Int)) then
                        bif bif false then true else (!(decide ((List.getD (shaPad a) (Int.toNat (((List.length a) : Nat) : Int)) (0 : UInt8)) = (128 : UInt8)))) then (some false)
                          else (if (List.length (shaPad a)) ≤ (1152921504606846976 : Nat) then
                            if (List.length a) ≤ (1152921504606846976 : Nat) then
                              bif eqb (decide ((decide ((shaPad a) = (shaPad (List.take ((Int.toNat (1000 : Int)) - (Int.toNat (0 : Int))) (List.drop (Int.toNat (0 : Int)) b))))) = (decide (a = (List.take ((Int.toNat (1000 : Int)) - (Int.toNat (0 : Int))) (List.drop (Int.toNat (0 : Int)) b)))))) true then (some true)
                                else (some false)
                            else none
                          else none)
                      else none)
                      else (some false)
                  else none
                else none)
                else (some false))
              else (some false)
          else none
        else none
      else none)
      else (if (List.length a) ≤ (1099511627776 : Nat) then
        if (List.length b) ≤ (1099511627776 : Nat) then
          bif eqb (decide ((((List.length (shaPad a)) : Nat) : Int) < (w64 ((((List.length a) : Nat) : Int) + (9 : Int))))) false then (bif eqb (bif false then true else (!(decide ((Int.tmod (((List.length (shaPad a)) : Nat) : Int) (64 : Int)) = (0 : Int))))) false then (if ((0 : Int) ≤ (0 : Int)) ∧ (((0 : Int) ≤ (((List.length a) : Nat) : Int)) ∧ ((((List.length a) : Nat) : Int) ≤ (((List.length (shaPad a)) : Nat) : Int))) then
                if (List.length (List.take ((Int.toNat (((List.length a) : Nat) : Int)) - (Int.toNat (0 : Int))) (List.drop (Int.toNat (0 : Int)) (shaPad a)))) ≤ (1152921504606846976 : Nat) then
                  bif eqb (bif false then true else (!(decide ((List.take ((Int.toNat (((List.length a) : Nat) : Int)) - (Int.toNat (0 : Int))) (List.drop (Int.toNat (0 : Int)) (shaPad a))) = a)))) false then (if ((0 : Int) ≤ (((List.length a) : Nat) : Int)) ∧ ((((List.length a) : Nat) : Int) < (((List.length (shaPad a)) : Nat) : Int)) then
                      bif bif false then true else (!(decide ((List.getD (shaPad a) (Int.toNat (((List.length a) : Nat) : Int)) (0 : UInt8)) = (128 : UInt8)))) then (some false)
                        else (if (List.length (shaPad a)) ≤ (1152921504606846976 : Nat) then
                          if (List.length a) ≤ (1152921504606846976 : Nat) then
                            bif eqb (decide ((decide ((shaPad a) = (shaPad b))) = (decide (a = b)))) true then (some true)
                              else (some false)
                          else none
                        else none)
                    else none)
                    else (some false)
                else none
              else none)
              else (some false))
            else (some false)
        else none
      else none))) := by kernel_rfl
theorem shaLen_inj {m n : Nat} (hm : m ≤ 1000) (hn : n ≤ 1000) (h : shaHigh (shl_u64 (UInt64.ofInt ((m : Nat) : Int)) 3) 8 = shaHigh (shl_u64 (UInt64.ofInt ((n : Nat) : Int)) 3) 8) : m = n := by
  have v : ∀ c : Nat, c ≤ 1000 → (shl_u64 (UInt64.ofInt ((c : Nat) : Int)) 3).toNat = 8 * c := by
    intro c hc
    unfold shl_u64
    have e : (UInt64.ofInt ((c : Nat) : Int)).toNat = c := u64_ofInt (by omega)
    rw [e, UInt64.toNat_ofNat', show min 3 64 = 3 from rfl]
    omega
  generalize ex : shl_u64 (UInt64.ofInt ((m : Nat) : Int)) 3 = x at h
  generalize ey : shl_u64 (UInt64.ofInt ((n : Nat) : Int)) 3 = y at h
  have hx := v m hm
  have hy := v n hn
  rw [ex] at hx
  rw [ey] at hy
  have g : ∀ j, j < 8 → (shr_u64 x (8 * (8 - 1 - j))).toUInt8 = (shr_u64 y (8 * (8 - 1 - j))).toUInt8 := by
    intro j hj
    rw [← shaHigh_get x 8 j hj, ← shaHigh_get y 8 j hj, h]
  have b0 := congrArg UInt8.toNat (g 7 (by omega))
  have b1 := congrArg UInt8.toNat (g 6 (by omega))
  simp only [shr_u64, UInt64.toNat_toUInt8, UInt64.toNat_ofNat'] at b0 b1
  simp at b0 b1
  omega
theorem shaPad_inj {a b : List UInt8} (ha : a.length ≤ 1000) (hb : b.length ≤ 1000) (h : shaPad a = shaPad b) : a = b := by
  unfold shaPad at h
  have hl := congrArg List.length h
  simp only [List.length_append, shaHigh_len, List.length_replicate, List.length_cons, List.length_nil] at hl
  have h2 := (List.append_inj' h (by simp [shaHigh_len])).2
  have e := shaLen_inj ha hb h2
  have h3 := (List.append_inj' h (by simp [shaHigh_len])).1
  rw [List.append_assoc, List.append_assoc] at h3
  exact (List.append_inj h3 e).1
theorem law02_ShaPads_short (a b : List UInt8) (ha : a.length ≤ 1000) (hb : b.length ≤ 1000) : law02_ShaPads a b = some true := by
  obtain ⟨h1, h2, h3⟩ := shaPad_len a
  have h4 : (shaPad a).take a.length = a := by simp [shaPad, List.append_assoc]
  have h5 : (shaPad a).getD a.length 0 = 128 := by simp [shaPad, List.append_assoc, List.getD]
  have h6 : decide (shaPad a = shaPad b) = decide (a = b) := by
    by_cases h : a = b
    · subst h; simp
    · rw [decide_eq_false h, decide_eq_false (fun q => h (shaPad_inj ha hb q))]
  have h7 : Int.tmod (((shaPad a).length : Nat) : Int) 64 = 0 := by
    have : Int.tmod (((shaPad a).length : Nat) : Int) 64 = (((shaPad a).length % 64 : Nat) : Int) := rfl
    rw [this, h1]; rfl
  have h8 : w64 (((a.length : Nat) : Int) + 9) = ((a.length + 9 : Nat) : Int) := by rw [w64_id (by omega) (by omega)]; omega
  rw [law02_ShaPads_q, bif_neg (by omega), bif_neg (by omega), if_pos (by omega), if_pos (by omega), h8, decide_eq_false (by omega), h7, take_to, Int.toNat_natCast, h4, h5, if_pos (by omega), if_pos (by omega), if_pos (by omega), if_pos (by omega), if_pos (by omega), h6]
  simp [eqb]
theorem law02_ShaPads_spec (a b : List UInt8) : law02_ShaPads a b = some true := by
  have e : ∀ c : List UInt8, (List.take (Int.toNat 1000) c).length ≤ 1000 := fun c => by rw [List.length_take]; exact Nat.min_le_left _ _
  by_cases ha : 1000 < a.length
  · by_cases hb : 1000 < b.length
    · have h := law02_ShaPads_short (a.take (Int.toNat 1000)) (b.take (Int.toNat 1000)) (e a) (e b)
      rw [law02_ShaPads_q, bif_neg (by have := e a; omega), bif_neg (by have := e b; omega)] at h
      rw [law02_ShaPads_q, bif_pos (by omega), if_pos (by omega), bif_pos (by omega), if_pos (by omega), take_to a, take_to b]
      exact h
    · have h := law02_ShaPads_short (a.take (Int.toNat 1000)) b (e a) (by omega)
      rw [law02_ShaPads_q, bif_neg (by have := e a; omega), bif_neg (by omega)] at h
      rw [law02_ShaPads_q, bif_pos (by omega), if_pos (by omega), bif_neg (by omega), take_to a]
      exact h
  · by_cases hb : 1000 < b.length
    · have h := law02_ShaPads_short a (b.take (Int.toNat 1000)) (by omega) (e b)
      rw [law02_ShaPads_q, bif_neg (by omega), bif_neg (by have := e b; omega)] at h
      rw [law02_ShaPads_q, bif_neg (by omega), bif_pos (by omega), if_pos (by omega), take_to b]
      exact h
    · exact law02_ShaPads_short a b (by omega) (by omega)

end
end Go.Proofs.YtkjillpcmffgoaaDoor.M

namespace Go.Proofs.YtkjillpcmffgoaaDoor.M
open Go
noncomputable section
set_option maxRecDepth 100000
noncomputable def law02_ShaPads_T : Tbl := [(18, [], sha_Padded_c), (20, [], ref00_Same_c), (17, [], law02_works_c)]
noncomputable def law02_ShaPads_C : CfgW := mkC Tryd.prog theG law02_ShaPads_T 60 0
def law02_ShaPads_lv : Nat → List Nat := fun i => []
noncomputable abbrev law02_ShaPads_b : Code := Tryd.f5.body.getD .skip
noncomputable abbrev law02_ShaPads_r : List ResultVar := Tryd.f5.results.toList
def law02_ShaPads_hs : List Nat := []

def law02_ShaPads_enc (r : Bool) : CallOut := ⟨.pv (.sc .b r), [], true, []⟩
theorem law02_ShaPads_e (a : List UInt8) (b : List UInt8) (Q : CallOut → Prop) : evalFnP law02_ShaPads_C law02_ShaPads_lv law02_ShaPads_r law02_ShaPads_hs law02_ShaPads_b [.pv (.sl .u8 a), .pv (.sl .u8 b)] [] Q =
    (condP (decide ((1000 : Int) < (((List.length a) : Nat) : Int))) ((((0 : Int) ≤ (0 : Int)) ∧ (((0 : Int) ≤ (1000 : Int)) ∧ ((1000 : Int) ≤ (((List.length a) : Nat) : Int)))) ∧ (condP (decide ((1000 : Int) < (((List.length b) : Nat) : Int))) ((((0 : Int) ≤ (0 : Int)) ∧ (((0 : Int) ≤ (1000 : Int)) ∧ ((1000 : Int) ≤ (((List.length b) : Nat) : Int)))) ∧ (((List.length (List.take ((Int.toNat (1000 : Int)) - (Int.toNat (0 : Int))) (List.drop (Int.toNat (0 : Int)) a))) ≤ (1099511627776 : Nat)) ∧ (((List.length (List.take ((Int.toNat (1000 : Int)) - (Int.toNat (0 : Int))) (List.drop (Int.toNat (0 : Int)) b))) ≤ (1099511627776 : Nat)) ∧ (condP (eqb (decide ((((List.length (shaPad (List.take ((Int.toNat (1000 : Int)) - (Int.toNat (0 : Int))) (List.drop (Int.toNat (0 : Int)) a)))) : Nat) : Int) < (w64 ((((List.length (List.take ((Int.toNat (1000 : Int)) - (Int.toNat (0 : Int))) (List.drop (Int.toNat (0 : Int)) a))) : Nat) : Int) + (9 : Int))))) false) (((64 : Int) ≠ (0 : Int)) ∧ (condP (eqb (bif false then true else (!(decide ((Int.tmod (((List.length (shaPad (List.take ((Int.toNat (1000 : Int)) - (Int.toNat (0 : Int))) (List.drop (Int.toNat (0 : Int)) a)))) : Nat) : Int) (64 : Int)) = (0 : Int))))) false) ((((0 : Int) ≤ (0 : Int)) ∧ (((0 : Int) ≤ (((List.length (List.take ((Int.toNat (1000 : Int)) - (Int.toNat (0 : Int))) (List.drop (Int.toNat (0 : Int)) a))) : Nat) : Int)) ∧ ((((List.length (List.take ((Int.toNat (1000 : Int)) - (Int.toNat (0 : Int))) (List.drop (Int.toNat (0 : Int)) a))) : Nat) : Int) ≤ (((List.length (shaPad (List.take ((Int.toNat (1000 : Int)) - (Int.toNat (0 : Int))) (List.drop (Int.toNat (0 : Int)) a)))) : Nat) : Int)))) ∧ (((List.length (List.take ((Int.toNat (((List.length (List.take ((Int.toNat (1000 : Int)) - (Int.toNat (0 : Int))) (List.drop (Int.toNat (0 : Int)) a))) : Nat) : Int)) - (Int.toNat (0 : Int))) (List.drop (Int.toNat (0 : Int)) (shaPad (List.take ((Int.toNat (1000 : Int)) - (Int.toNat (0 : Int))) (List.drop (Int.toNat (0 : Int)) a)))))) ≤ (1152921504606846976 : Nat)) ∧ (condP (eqb (bif false then true else (!(decide ((List.take ((Int.toNat (((List.length (List.take ((Int.toNat (1000 : Int)) - (Int.toNat (0 : Int))) (List.drop (Int.toNat (0 : Int)) a))) : Nat) : Int)) - (Int.toNat (0 : Int))) (List.drop (Int.toNat (0 : Int)) (shaPad (List.take ((Int.toNat (1000 : Int)) - (Int.toNat (0 : Int))) (List.drop (Int.toNat (0 : Int)) a))))) = (List.take ((Int.toNat (1000 : Int)) - (Int.toNat (0 : Int))) (List.drop (Int.toNat (0 : Int)) a)))))) false) ((((0 : Int) ≤ (((List.length (List.take ((Int.toNat (1000 : Int)) - (Int.toNat (0 : Int))) (List.drop (Int.toNat (0 : Int)) a))) : Nat) : Int)) ∧ ((((List.length (List.take ((Int.toNat (1000 : Int)) - (Int.toNat (0 : Int))) (List.drop (Int.toNat (0 : Int)) a))) : Nat) : Int) < (((List.length (shaPad (List.take ((Int.toNat (1000 : Int)) - (Int.toNat (0 : Int))) (List.drop (Int.toNat (0 : Int)) a)))) : Nat) : Int))) ∧ (condP (bif false then true else (!(decide ((List.getD (shaPad (List.take ((Int.toNat (1000 : Int)) - (Int.toNat (0 : Int))) (List.drop (Int.toNat (0 : Int)) a))) (Int.toNat (((List.length (List.take ((Int.toNat (1000 : Int)) - (Int.toNat (0 : Int))) (List.drop (Int.toNat (0 : Int)) a))) : Nat) : Int)) (0 : UInt8)) = (128 : UInt8))))) (Q (law02_ShaPads_enc false)) (((List.length (shaPad (List.take ((Int.toNat (1000 : Int)) - (Int.toNat (0 : Int))) (List.drop (Int.toNat (0 : Int)) a)))) ≤ (1152921504606846976 : Nat)) ∧ (((List.length (List.take ((Int.toNat (1000 : Int)) - (Int.toNat (0 : Int))) (List.drop (Int.toNat (0 : Int)) a))) ≤ (1152921504606846976 : Nat)) ∧ (condP (eqb (decide ((decide ((shaPad (List.take ((Int.toNat (1000 : Int)) - (Int.toNat (0 : Int))) (List.drop (Int.toNat (0 : Int)) a))) = (shaPad (List.take ((Int.toNat (1000 : Int)) - (Int.toNat (0 : Int))) (List.drop (Int.toNat (0 : Int)) b))))) = (decide ((List.take ((Int.toNat (1000 : Int)) - (Int.toNat (0 : Int))) (List.drop (Int.toNat (0 : Int)) a)) = (List.take ((Int.toNat (1000 : Int)) - (Int.toNat (0 : Int))) (List.drop (Int.toNat (0 : Int)) b)))))) true) (Q (law02_ShaPads_enc true)) (Q (law02_ShaPads_enc false))))))) (Q (law02_ShaPads_enc false))))) (Q (law02_ShaPads_enc false)))) (Q (law02_ShaPads_enc false)))))) (((List.length (List.take ((Int.toNat (1000 : Int)) - (Int.toNat (0 : Int))) (List.drop (Int.toNat (0 : Int)) a))) ≤ (1099511627776 : Nat)) ∧ (((List.length b) ≤ (1099511627776 : Nat)) ∧ (condP (eqb (decide ((((List.length (shaPad (List.take ((Int.toNat (1000 : Int)) - (Int.toNat (0 : Int))) (List.drop (Int.toNat (0 : Int)) a)))) : Nat) : Int) < (w64 ((((List.length (List.take ((Int.toNat (1000 : Int)) - (Int.toNat (0 : Int))) (List.drop (Int.toNat (0 : Int)) a))) : Nat) : Int) + (9 : Int))))) false) (((64 : Int) ≠ (0 : Int)) ∧ (condP (eqb (bif false then true else (!(decide ((Int.tmod (((List.length (shaPad (List.take ((Int.toNat (1000 : Int)) - (Int.toNat (0 : Int))) (List.drop (Int.toNat (0 : Int)) a)))) : Nat) : Int) (64 : Int)) = (0 : Int))))) false) ((((0 : Int) ≤ (0 : Int)) ∧ (((0 : Int) ≤ (((List.length (List.take ((Int.toNat (1000 : Int)) - (Int.toNat (0 : Int))) (List.drop (Int.toNat (0 : Int)) a))) : Nat) : Int)) ∧ ((((List.length (List.take ((Int.toNat (1000 : Int)) - (Int.toNat (0 : Int))) (List.drop (Int.toNat (0 : Int)) a))) : Nat) : Int) ≤ (((List.length (shaPad (List.take ((Int.toNat (1000 : Int)) - (Int.toNat (0 : Int))) (List.drop (Int.toNat (0 : Int)) a)))) : Nat) : Int)))) ∧ (((List.length (List.take ((Int.toNat (((List.length (List.take ((Int.toNat (1000 : Int)) - (Int.toNat (0 : Int))) (List.drop (Int.toNat (0 : Int)) a))) : Nat) : Int)) - (Int.toNat (0 : Int))) (List.drop (Int.toNat (0 : Int)) (shaPad (List.take ((Int.toNat (1000 : Int)) - (Int.toNat (0 : Int))) (List.drop (Int.toNat (0 : Int)) a)))))) ≤ (1152921504606846976 : Nat)) ∧ (condP (eqb (bif false then true else (!(decide ((List.take ((Int.toNat (((List.length (List.take ((Int.toNat (1000 : Int)) - (Int.toNat (0 : Int))) (List.drop (Int.toNat (0 : Int)) a))) : Nat) : Int)) - (Int.toNat (0 : Int))) (List.drop (Int.toNat (0 : Int)) (shaPad (List.take ((Int.toNat (1000 : Int)) - (Int.toNat (0 : Int))) (List.drop (Int.toNat (0 : Int)) a))))) = (List.take ((Int.toNat (1000 : Int)) - (Int.toNat (0 : Int))) (List.drop (Int.toNat (0 : Int)) a)))))) false) ((((0 : Int) ≤ (((List.length (List.take ((Int.toNat (1000 : Int)) - (Int.toNat (0 : Int))) (List.drop (Int.toNat (0 : Int)) a))) : Nat) : Int)) ∧ ((((List.length (List.take ((Int.toNat (1000 : Int)) - (Int.toNat (0 : Int))) (List.drop (Int.toNat (0 : Int)) a))) : Nat) : Int) < (((List.length (shaPad (List.take ((Int.toNat (1000 : Int)) - (Int.toNat (0 : Int))) (List.drop (Int.toNat (0 : Int)) a)))) : Nat) : Int))) ∧ (condP (bif false then true else (!(decide ((List.getD (shaPad (List.take ((Int.toNat (1000 : Int)) - (Int.toNat (0 : Int))) (List.drop (Int.toNat (0 : Int)) a))) (Int.toNat (((List.length (List.take ((Int.toNat (1000 : Int)) - (Int.toNat (0 : Int))) (List.drop (Int.toNat (0 : Int)) a))) : Nat) : Int)) (0 : UInt8)) = (128 : UInt8))))) (Q (law02_ShaPads_enc false)) (((List.length (shaPad (List.take ((Int.toNat (1000 : Int)) - (Int.toNat (0 : Int))) (List.drop (Int.toNat (0 : Int)) a)))) ≤ (1152921504606846976 : Nat)) ∧ (((List.length (List.take ((Int.toNat (1000 : Int)) - (Int.toNat (0 : Int))) (List.drop (Int.toNat (0 : Int)) a))) ≤ (1152921504606846976 : Nat)) ∧ (condP (eqb (decide ((decide ((shaPad (List.take ((Int.toNat (1000 : Int)) - (Int.toNat (0 : Int))) (List.drop (Int.toNat (0 : Int)) a))) = (shaPad b))) = (decide ((List.take ((Int.toNat (1000 : Int)) - (Int.toNat (0 : Int))) (List.drop (Int.toNat (0 : Int)) a)) = b)))) true) (Q (law02_ShaPads_enc true)) (Q (law02_ShaPads_enc false))))))) (Q (law02_ShaPads_enc false))))) (Q (law02_ShaPads_enc false)))) (Q (law02_ShaPads_enc false))))))) (condP (decide ((1000 : Int) < (((List.length b) : Nat) : Int))) ((((0 : Int) ≤ (0 : Int)) ∧ (((0 : Int) ≤ (1000 : Int)) ∧ ((1000 : Int) ≤ (((List.length b) : Nat) : Int)))) ∧ (((List.length a) ≤ (1099511627776 : Nat)) ∧ (((List.length (List.take ((Int.toNat (1000 : Int)) - (Int.toNat (0 : Int))) (List.drop (Int.toNat (0 : Int)) b))) ≤ (1099511627776 : Nat)) ∧ (condP (eqb (decide ((((List.length (shaPad a)) : Nat) : Int) < (w64 ((((List.length a) : Nat) : Int) + (9 : Int))))) false) (((64 : Int) ≠ (0 : Int)) ∧ (condP (eqb (bif false then true else (!(decide ((Int.tmod (((List.length (shaPad a)) : Nat) : Int) (64 : Int)) = (0 : Int))))) false) ((((0 : Int) ≤ (0 : Int)) ∧ (((0 : Int) ≤ (((List.length a) : Nat) : Int)) ∧ ((((List.length a) : Nat) : Int) ≤ (((List.length (shaPad a)) : Nat) : Int)))) ∧ (((List.length (List.take ((Int.toNat (((List.length a) : Nat) : Int)) - (Int.toNat (0 : Int))) (List.drop (Int.toNat (0 : Int)) (shaPad a)))) ≤ (1152921504606846976 : Nat)) ∧ (condP (eqb (bif false then true else (!(decide ((List.take ((Int.toNat (((List.length a) : Nat) : Int)) - (Int.toNat (0 : Int))) (List.drop (Int.toNat (0 : Int)) (shaPad a))) = a)))) false) ((((0 : Int) ≤ (((List.length a) : Nat) : Int)) ∧ ((((List.length a) : Nat) : Int) < (((List.length (shaPad a)) : Nat) : Int))) ∧ (condP (bif false then true else (!(decide ((List.getD (shaPad a) (Int.toNat (((List.length a) : Nat) : Int)) (0 : UInt8)) = (128 : UInt8))))) (Q (law02_ShaPads_enc false)) (((List.length (shaPad a)) ≤ (1152921504606846976 : Nat)) ∧ (((List.length a) ≤ (1152921504606846976 : Nat)) ∧ (condP (eqb (decide ((decide ((shaPad a) = (shaPad (List.take ((Int.toNat (1000 : Int)) - (Int.toNat (0 : Int))) (List.drop (Int.toNat (0 : Int)) b))))) = (decide (a = (List.take ((Int.toNat (1000 : Int)) - (Int.toNat (0 : Int))) (List.drop (Int.toNat (0 : Int)) b)))))) true) (Q (law02_ShaPads_enc true)) (Q (law02_ShaPads_enc false))))))) (Q (law02_ShaPads_enc false))))) (Q (law02_ShaPads_enc false)))) (Q (law02_ShaPads_enc false)))))) (((List.length a) ≤ (1099511627776 : Nat)) ∧ (((List.length b) ≤ (1099511627776 : Nat)) ∧ (condP (eqb (decide ((((List.length (shaPad a)) : Nat) : Int) < (w64 ((((List.length a) : Nat) : Int) + (9 : Int))))) false) (((64 : Int) ≠ (0 : Int)) ∧ (condP (eqb (bif false then true else (!(decide ((Int.tmod (((List.length (shaPad a)) : Nat) : Int) (64 : Int)) = (0 : Int))))) false) ((((0 : Int) ≤ (0 : Int)) ∧ (((0 : Int) ≤ (((List.length a) : Nat) : Int)) ∧ ((((List.length a) : Nat) : Int) ≤ (((List.length (shaPad a)) : Nat) : Int)))) ∧ (((List.length (List.take ((Int.toNat (((List.length a) : Nat) : Int)) - (Int.toNat (0 : Int))) (List.drop (Int.toNat (0 : Int)) (shaPad a)))) ≤ (1152921504606846976 : Nat)) ∧ (condP (eqb (bif false then true else (!(decide ((List.take ((Int.toNat (((List.length a) : Nat) : Int)) - (Int.toNat (0 : Int))) (List.drop (Int.toNat (0 : Int)) (shaPad a))) = a)))) false) ((((0 : Int) ≤ (((List.length a) : Nat) : Int)) ∧ ((((List.length a) : Nat) : Int) < (((List.length (shaPad a)) : Nat) : Int))) ∧ (condP (bif false then true else (!(decide ((List.getD (shaPad a) (Int.toNat (((List.length a) : Nat) : Int)) (0 : UInt8)) = (128 : UInt8))))) (Q (law02_ShaPads_enc false)) (((List.length (shaPad a)) ≤ (1152921504606846976 : Nat)) ∧ (((List.length a) ≤ (1152921504606846976 : Nat)) ∧ (condP (eqb (decide ((decide ((shaPad a) = (shaPad b))) = (decide (a = b)))) true) (Q (law02_ShaPads_enc true)) (Q (law02_ShaPads_enc false))))))) (Q (law02_ShaPads_enc false))))) (Q (law02_ShaPads_enc false)))) (Q (law02_ShaPads_enc false))))))) := by kernel_rfl
theorem law02_ShaPads_w (a : List UInt8) (b : List UInt8) {r} {Q : CallOut → Prop} (h : law02_ShaPads a b = some r) (hQ : Q (law02_ShaPads_enc r)) : evalFnP law02_ShaPads_C law02_ShaPads_lv law02_ShaPads_r law02_ShaPads_hs law02_ShaPads_b [.pv (.sl .u8 a), .pv (.sl .u8 b)] [] Q :=
  Eq.mpr (law02_ShaPads_e a b Q) (have h := (law02_ShaPads_q a b).symm.trans h; cond_ok h (fun h => ite_ok h fun hc0 h => cond_ok h (fun h => ite_ok h fun hc1 h => ite_ok h fun hc2 h => ite_ok h fun hc3 h => cond_ok h (fun h => ⟨by decide +kernel, cond_ok h (fun h => ite_ok h fun hc4 h => ite_ok h fun hc5 h => cond_ok h (fun h => ite_ok h fun hc6 h => cond_ok h (fun h => ret_ok (Q := Q) (e := law02_ShaPads_enc) h hQ) (fun h => ite_ok h fun hc7 h => ite_ok h fun hc8 h => cond_ok h (fun h => ret_ok (Q := Q) (e := law02_ShaPads_enc) h hQ) (fun h => ret_ok (Q := Q) (e := law02_ShaPads_enc) h hQ))) (fun h => ret_ok (Q := Q) (e := law02_ShaPads_enc) h hQ)) (fun h => ret_ok (Q := Q) (e := law02_ShaPads_enc) h hQ)⟩) (fun h => ret_ok (Q := Q) (e := law02_ShaPads_enc) h hQ)) (fun h => ite_ok h fun hc1 h => ite_ok h fun hc2 h => cond_ok h (fun h => ⟨by decide +kernel, cond_ok h (fun h => ite_ok h fun hc3 h => ite_ok h fun hc4 h => cond_ok h (fun h => ite_ok h fun hc5 h => cond_ok h (fun h => ret_ok (Q := Q) (e := law02_ShaPads_enc) h hQ) (fun h => ite_ok h fun hc6 h => ite_ok h fun hc7 h => cond_ok h (fun h => ret_ok (Q := Q) (e := law02_ShaPads_enc) h hQ) (fun h => ret_ok (Q := Q) (e := law02_ShaPads_enc) h hQ))) (fun h => ret_ok (Q := Q) (e := law02_ShaPads_enc) h hQ)) (fun h => ret_ok (Q := Q) (e := law02_ShaPads_enc) h hQ)⟩) (fun h => ret_ok (Q := Q) (e := law02_ShaPads_enc) h hQ))) (fun h => cond_ok h (fun h => ite_ok h fun hc0 h => ite_ok h fun hc1 h => ite_ok h fun hc2 h => cond_ok h (fun h => ⟨by decide +kernel, cond_ok h (fun h => ite_ok h fun hc3 h => ite_ok h fun hc4 h => cond_ok h (fun h => ite_ok h fun hc5 h => cond_ok h (fun h => ret_ok (Q := Q) (e := law02_ShaPads_enc) h hQ) (fun h => ite_ok h fun hc6 h => ite_ok h fun hc7 h => cond_ok h (fun h => ret_ok (Q := Q) (e := law02_ShaPads_enc) h hQ) (fun h => ret_ok (Q := Q) (e := law02_ShaPads_enc) h hQ))) (fun h => ret_ok (Q := Q) (e := law02_ShaPads_enc) h hQ)) (fun h => ret_ok (Q := Q) (e := law02_ShaPads_enc) h hQ)⟩) (fun h => ret_ok (Q := Q) (e := law02_ShaPads_enc) h hQ)) (fun h => ite_ok h fun hc0 h => ite_ok h fun hc1 h => cond_ok h (fun h => ⟨by decide +kernel, cond_ok h (fun h => ite_ok h fun hc2 h => ite_ok h fun hc3 h => cond_ok h (fun h => ite_ok h fun hc4 h => cond_ok h (fun h => ret_ok (Q := Q) (e := law02_ShaPads_enc) h hQ) (fun h => ite_ok h fun hc5 h => ite_ok h fun hc6 h => cond_ok h (fun h => ret_ok (Q := Q) (e := law02_ShaPads_enc) h hQ) (fun h => ret_ok (Q := Q) (e := law02_ShaPads_enc) h hQ))) (fun h => ret_ok (Q := Q) (e := law02_ShaPads_enc) h hQ)) (fun h => ret_ok (Q := Q) (e := law02_ShaPads_enc) h hQ)⟩) (fun h => ret_ok (Q := Q) (e := law02_ShaPads_enc) h hQ))))
def law02_ShaPads_c : Ans
  | [.pv (.sl .u8 a), .pv (.sl .u8 b)], [] => some (none, law02_ShaPads_enc (true))
  | _, _ => none
theorem law02_ShaPads_tok : TblOK Tryd.prog theG law02_ShaPads_T := .cons ⟨by kernel_rfl, sha_Padded_ok⟩ (.cons ⟨by kernel_rfl, ref00_Same_ok⟩ (.cons ⟨by kernel_rfl, law02_works_ok⟩ (.nil)))
theorem law02_ShaPads_ok : FnOK Tryd.prog theG 5 (unW law02_ShaPads_c) := by
  refine FnOK.ofC (T := law02_ShaPads_T) (nt := 60) (np := 0) (hs := law02_ShaPads_hs) (fn := Tryd.f5) (body := law02_ShaPads_b) law02_ShaPads_tok (by kernel_rfl) (by kernel_rfl) (by kernel_rfl) (by kernel_rfl) (c := law02_ShaPads_c) (lv := law02_ShaPads_lv) ?_
  intro xs mem p out h hp
  unfold law02_ShaPads_c at h
  split at h
  · cases h
    exact law02_ShaPads_w _ _ (law02_ShaPads_spec _ _) rfl
  · cases h
end
end Go.Proofs.YtkjillpcmffgoaaDoor.M

namespace Go.Proofs.YtkjillpcmffgoaaDoor
open Go Go.ChangeShapes Go.WideShapes Go.ChangeAt Go.RowKit
open Go.Proofs.YtkjillpcmffgoaaDoor
theorem law02_ShaPads_own : ownKnob Tryd.prog.godebug = none := by kernel_rfl
theorem law02_ShaPads_law : ∀ ys : List M.PV, M.FitL [.sl .u8, .sl .u8] ys → ∃ p out, M.law02_ShaPads_c (ys.map .pv) [] = some (p, out) ∧ p.h ∧ out.val = .pv (.sc .b true) := by
  rintro ys ⟨_, _, rfl, ⟨x0, rfl, hx0, lx0⟩, ⟨_, _, rfl, ⟨x1, rfl, hx1, lx1⟩, rfl⟩⟩
  exact ⟨_, _, rfl, trivial, rfl⟩
set_option maxRecDepth 100000 in
theorem law02_ShaPads_lifted (os : Os) (started : os.Started) (H : Type) (enc : TypeId × Value → H) :
    ReturnsInHanded {} Tryd.checked os 5 .any (fun w args => (Rows.shaPadsSpec.pre enc Tryd.prog Tryd.f5 [] false w args ∧ laidMetH Tryd.prog Rows.shaPadsRow.laid w) ∧ sizedMet enc Tryd.prog Tryd.f5 (OpenSpec.ofChange Rows.shaPadsSpec) false w args)
      (Rows.shaPadsSpec.post enc Tryd.prog Tryd.f5 false true false false) := by
  refine returnsInHanded_of_change_and (C := Tryd.checked) (X := fun w _ => laidMetH Tryd.prog Rows.shaPadsRow.laid w) (fun _ _ _ hh h => h.of_heap hh) law02_ShaPads_own started (by kernel_rfl) (by kernel_rfl)
    (ChangeSpec.witness_shaped (enc := enc) (C := Tryd.checked) (os := os) (X := fun w _ => laidMetH Tryd.prog Rows.shaPadsRow.laid w) false (World.laidAll Tryd.prog os Rows.shaPadsRow.laid) #[.slice none 0 0, .slice none 0 0] 8 (World.laidAll_os _ _ _)
      (World.shaped_of_ZipB (by kernel_rfl) (by kernel_rfl)) (by kernel_rfl) (by kernel_rfl) (by kernel_rfl)
      (by rw [MakeChecks.laidMetH_plain _ _ _ (by kernel_rfl)]; exact laidMet_laidAll _ (by kernel_rfl) (by kernel_rfl))) ?_
  intro W base args ds gs before hval hW _ hsz hL _
  exact M.law_contract (ss := [.sl .u8, .sl .u8]) (G := M.theG) (c := M.law02_ShaPads_c) (tb := 4) rfl (fun ds h => by
      match ds, h with
      | [d0, d1], _ => rfl) (by kernel_rfl) (by kernel_rfl) (by kernel_rfl) (by kernel_rfl) (by kernel_rfl) M.law02_ShaPads_ok law02_ShaPads_law hval hW hsz (M.globs (by rwa [MakeChecks.laidMetH_plain _ _ _ (by kernel_rfl)] at hL))
theorem shaPads_row : Rows.ShaPadsSaid :=
  OpenClaim.holds_of_wide 5 Tryd.f5 rfl rfl rfl rfl rfl rfl rfl ⟨rfl, rfl, rfl, rfl, rfl⟩ rfl rfl rfl rfl rfl (by kernel_rfl) (by kernel_rfl) (by kernel_rfl)
    (of_decide_eq_true (by kernel_rfl)) (by unfold Func.isWrapper; first | (rw [if_pos (by decide +kernel)]; kernel_rfl) | (rw [if_neg (by decide +kernel)]; exact ⟨rfl, rfl⟩))
    (fun os started H enc _ => law02_ShaPads_lifted os started H enc)
theorem shaPads_card : Rows.ShaPadsCardSaid :=
  Claim7.holds_tied_plain_at .later [] [.data] true (true, "309ffbb7a45fc8f63b017b00e1d958320a56bfcbda7dd92db1a0903d53958375") false shaPads_row (fun _ h => by cases h) (by kernel_rfl) (fun _ h => by cases h) shaPads_row_tie rfl ⟨rfl, rfl⟩ (by kernel_rfl) rfl
    (fun f fn hf hfn => by
      obtain rfl : f = 5 := Option.some.inj ((show Tryd.prog.funcNamed "moneyer/moneyerlaw02.ShaPads" = some 5 by kernel_rfl).symm.trans hf) |>.symm
      obtain rfl : fn = Tryd.f5 := (Option.some.inj ((show Tryd.prog.funcs[5]? = some Tryd.f5 by kernel_rfl).symm.trans hfn)).symm
      exact ⟨by kernel_rfl, fun j t ht => by
        have hp : Tryd.f5.params = #[29, 29] := by kernel_rfl
        rw [hp] at ht
        have hm : t ∈ [29, 29] := by simpa using Array.mem_of_getElem? ht
        have hall : ([29, 29].all fun u => !Tryd.prog.wantsStandIn u) = true := by kernel_rfl
        exact (show Tryd.prog.wantsStandIn t = false by simpa using List.all_eq_true.1 hall t hm)⟩)
    (by kernel_rfl)
#print axioms shaPads_card
end Go.Proofs.YtkjillpcmffgoaaDoor
