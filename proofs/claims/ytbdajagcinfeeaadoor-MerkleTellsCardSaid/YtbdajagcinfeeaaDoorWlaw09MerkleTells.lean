/- The statement of MerkleTells: for every input the law returns true, and each argument reads behind the call as it read before. No condition. -/
import Derived.KernelRfl
import Derived.Test.YtbdajagcinfeeaaDoorProg
import Derived.Test.YtbdajagcinfeeaaDoorRows
import Derived.Test.YtbdajagcinfeeaaDoorCards
import Derived.Test.YtbdajagcinfeeaaDoorTie
import Derived.WalkKit
import Derived.ProofKit
import Derived.Handy
import Derived.Lay
import Derived.SizedLaws
import Derived.SevenTiedAt
import Derived.Test.YtbdajagcinfeeaaDoorLe
import Derived.Test.YtbdajagcinfeeaaDoorFmerkle
import Derived.Test.YtbdajagcinfeeaaDoorFref09
import Derived.Test.YtbdajagcinfeeaaDoorFref00
import Derived.Test.YtbdajagcinfeeaaDoorFlaw09
import Derived.Test.YtbdajagcinfeeaaDoorSwords
import Derived.Test.YtbdajagcinfeeaaDoorSshaS
import Derived.Test.YtbdajagcinfeeaaDoorSmerS
import Derived.Test.YtbdajagcinfeeaaDoorSshaK
import Derived.Test.YtbdajagcinfeeaaDoorShashF
import Derived.Test.YtbdajagcinfeeaaDoorSKL
set_option linter.unusedVariables false
set_option linter.unusedSimpArgs false
set_option autoImplicit false
namespace Go.Proofs.YtbdajagcinfeeaaDoor.M
open Go
noncomputable section
/-- moneyer/moneyerlaw09.MerkleTells -/
def law09_MerkleTells (l : List PV) (n : Int) (h_2 : Vector UInt8 32) (many : Int) (way : List PV) : Option (Bool) :=
  bif decide ((100 : Int) < (((List.length l) : Nat) : Int)) then (if ((0 : Int) ≤ (0 : Int)) ∧ (((0 : Int) ≤ (100 : Int)) ∧ ((100 : Int) ≤ (((List.length l) : Nat) : Int))) then
      bif decide ((25 : Int) < (((List.length way) : Nat) : Int)) then (if ((0 : Int) ≤ (0 : Int)) ∧ (((0 : Int) ≤ (25 : Int)) ∧ ((25 : Int) ≤ (((List.length way) : Nat) : Int))) then
          if (hashesB (List.take ((Int.toNat (100 : Int)) - (Int.toNat (0 : Int))) (List.drop (Int.toNat (0 : Int)) l))) = true then
            if ((hashesB (List.take ((Int.toNat (100 : Int)) - (Int.toNat (0 : Int))) (List.drop (Int.toNat (0 : Int)) l))) = true) ∧ ((List.length (List.take ((Int.toNat (100 : Int)) - (Int.toNat (0 : Int))) (List.drop (Int.toNat (0 : Int)) l))) ≤ (1099511627700 : Nat)) then
              if (hashesB (List.take ((Int.toNat (25 : Int)) - (Int.toNat (0 : Int))) (List.drop (Int.toNat (0 : Int)) way))) = true then
                bif eqb (decide ((Vector.toList (rootV (hOfs (List.take ((Int.toNat (100 : Int)) - (Int.toNat (0 : Int))) (List.drop (Int.toNat (0 : Int)) l))))) = (Vector.toList (rootV (hOfs (List.take ((Int.toNat (100 : Int)) - (Int.toNat (0 : Int))) (List.drop (Int.toNat (0 : Int)) l))))))) true then (bif eqb (bif true then (decide ((rootB (hOfs (List.take ((Int.toNat (100 : Int)) - (Int.toNat (0 : Int))) (List.drop (Int.toNat (0 : Int)) l)))) = (rootB (hOfs (List.take ((Int.toNat (100 : Int)) - (Int.toNat (0 : Int))) (List.drop (Int.toNat (0 : Int)) l)))))) else false) true then (if ((hashesB (wayL (hOfs (List.take ((Int.toNat (100 : Int)) - (Int.toNat (0 : Int))) (List.drop (Int.toNat (0 : Int)) l))) n)) = true) ∧ ((hashesB (wayL (hOfs (List.take ((Int.toNat (100 : Int)) - (Int.toNat (0 : Int))) (List.drop (Int.toNat (0 : Int)) l))) n)) = true) then
                      bif eqb (bif true then (hashesS (wayL (hOfs (List.take ((Int.toNat (100 : Int)) - (Int.toNat (0 : Int))) (List.drop (Int.toNat (0 : Int)) l))) n) (wayL (hOfs (List.take ((Int.toNat (100 : Int)) - (Int.toNat (0 : Int))) (List.drop (Int.toNat (0 : Int)) l))) n)) else false) true then (bif eqb (bif true then (decide ((wayE (hOfs (List.take ((Int.toNat (100 : Int)) - (Int.toNat (0 : Int))) (List.drop (Int.toNat (0 : Int)) l))) n) = (wayE (hOfs (List.take ((Int.toNat (100 : Int)) - (Int.toNat (0 : Int))) (List.drop (Int.toNat (0 : Int)) l))) n))) else false) true then (bif eqb (bif true then (decide ((Vector.toList (leadsV h_2 n many (hOfs (List.take ((Int.toNat (25 : Int)) - (Int.toNat (0 : Int))) (List.drop (Int.toNat (0 : Int)) way))))) = (Vector.toList (leadsV h_2 n many (hOfs (List.take ((Int.toNat (25 : Int)) - (Int.toNat (0 : Int))) (List.drop (Int.toNat (0 : Int)) way))))))) else false) true then (bif eqb (bif true then (decide ((leadsE n many (hOfs (List.take ((Int.toNat (25 : Int)) - (Int.toNat (0 : Int))) (List.drop (Int.toNat (0 : Int)) way)))) = (leadsE n many (hOfs (List.take ((Int.toNat (25 : Int)) - (Int.toNat (0 : Int))) (List.drop (Int.toNat (0 : Int)) way)))))) else false) true then (some true)
                              else (some false))
                            else (some false))
                          else (some false))
                        else (some false)
                    else none)
                    else (some false))
                  else (some false)
              else none
            else none
          else none
        else none)
        else (if (hashesB (List.take ((Int.toNat (100 : Int)) - (Int.toNat (0 : Int))) (List.drop (Int.toNat (0 : Int)) l))) = true then
          if ((hashesB (List.take ((Int.toNat (100 : Int)) - (Int.toNat (0 : Int))) (List.drop (Int.toNat (0 : Int)) l))) = true) ∧ ((List.length (List.take ((Int.toNat (100 : Int)) - (Int.toNat (0 : Int))) (List.drop (Int.toNat (0 : Int)) l))) ≤ (1099511627700 : Nat)) then
            if (hashesB way) = true then
              bif eqb (decide ((Vector.toList (rootV (hOfs (List.take ((Int.toNat (100 : Int)) - (Int.toNat (0 : Int))) (List.drop (Int.toNat (0 : Int)) l))))) = (Vector.toList (rootV (hOfs (List.take ((Int.toNat (100 : Int)) - (Int.toNat (0 : Int))) (List.drop (Int.toNat (0 : Int)) l))))))) true then (bif eqb (bif true then (decide ((rootB (hOfs (List.take ((Int.toNat (100 : Int)) - (Int.toNat (0 : Int))) (List.drop (Int.toNat (0 : Int)) l)))) = (rootB (hOfs (List.take ((Int.toNat (100 : Int)) - (Int.toNat (0 : Int))) (List.drop (Int.toNat (0 : Int)) l)))))) else false) true then (if ((hashesB (wayL (hOfs (List.take ((Int.toNat (100 : Int)) - (Int.toNat (0 : Int))) (List.drop (Int.toNat (0 : Int)) l))) n)) = true) ∧ ((hashesB (wayL (hOfs (List.take ((Int.toNat (100 : Int)) - (Int.toNat (0 : Int))) (List.drop (Int.toNat (0 : Int)) l))) n)) = true) then
                    bif eqb (bif true then (hashesS (wayL (hOfs (List.take ((Int.toNat (100 : Int)) - (Int.toNat (0 : Int))) (List.drop (Int.toNat (0 : Int)) l))) n) (wayL (hOfs (List.take ((Int.toNat (100 : Int)) - (Int.toNat (0 : Int))) (List.drop (Int.toNat (0 : Int)) l))) n)) else false) true then (bif eqb (bif true then (decide ((wayE (hOfs (List.take ((Int.toNat (100 : Int)) - (Int.toNat (0 : Int))) (List.drop (Int.toNat (0 : Int)) l))) n) = (wayE (hOfs (List.take ((Int.toNat (100 : Int)) - (Int.toNat (0 : Int))) (List.drop (Int.toNat (0 : Int)) l))) n))) else false) true then (bif eqb (bif true then (decide ((Vector.toList (leadsV h_2 n many (hOfs way))) = (Vector.toList (leadsV h_2 n many (hOfs way))))) else false) true then (bif eqb (bif true then (decide ((leadsE n many (hOfs way)) = (leadsE n many (hOfs way)))) else false) true then (some true)
                            else (some false))
                          else (some false))
                        else (some false))
                      else (some false)
                  else none)
                  else (some false))
                else (some false)
            else none
          else none
        else none)
    else none)
    else (bif decide ((25 : Int) < (((List.length way) : Nat) : Int)) then (if ((0 : Int) ≤ (0 : Int)) ∧ (((0 : Int) ≤ (25 : Int)) ∧ ((25 : Int) ≤ (((List.length way) : Nat) : Int))) then
        if (hashesB l) = true then
          if ((hashesB l) = true) ∧ ((List.length l) ≤ (1099511627700 : Nat)) then
            if (hashesB (List.take ((Int.toNat (25 : Int)) - (Int.toNat (0 : Int))) (List.drop (Int.toNat (0 : Int)) way))) = true then
              bif eqb (decide ((Vector.toList (rootV (hOfs l))) = (Vector.toList (rootV (hOfs l))))) true then (bif eqb (bif true then (decide ((rootB (hOfs l)) = (rootB (hOfs l)))) else false) true then (if ((hashesB (wayL (hOfs l) n)) = true) ∧ ((hashesB (wayL (hOfs l) n)) = true) then
                    bif eqb (bif true then (hashesS (wayL (hOfs l) n) (wayL (hOfs l) n)) else false) true then (bif eqb (bif true then (decide ((wayE (hOfs l) n) = (wayE (hOfs l) n))) else false) true then (bif eqb (bif true then (decide ((Vector.toList (leadsV h_2 n many (hOfs (List.take ((Int.toNat (25 : Int)) - (Int.toNat (0 : Int))) (List.drop (Int.toNat (0 : Int)) way))))) = (Vector.toList (leadsV h_2 n many (hOfs (List.take ((Int.toNat (25 : Int)) - (Int.toNat (0 : Int))) (List.drop (Int.toNat (0 : Int)) way))))))) else false) true then (bif eqb (bif true then (decide ((leadsE n many (hOfs (List.take ((Int.toNat (25 : Int)) - (Int.toNat (0 : Int))) (List.drop (Int.toNat (0 : Int)) way)))) = (leadsE n many (hOfs (List.take ((Int.toNat (25 : Int)) - (Int.toNat (0 : Int))) (List.drop (Int.toNat (0 : Int)) way)))))) else false) true then (some true)
                            else (some false))
                          else (some false))
                        else (some false))
                      else (some false)
                  else none)
                  else (some false))
                else (some false)
            else none
          else none
        else none
      else none)
      else (if (hashesB l) = true then
        if ((hashesB l) = true) ∧ ((List.length l) ≤ (1099511627700 : Nat)) then
          if (hashesB way) = true then
            bif eqb (decide ((Vector.toList (rootV (hOfs l))) = (Vector.toList (rootV (hOfs l))))) true then (bif eqb (bif true then (decide ((rootB (hOfs l)) = (rootB (hOfs l)))) else false) true then (if ((hashesB (wayL (hOfs l) n)) = true) ∧ ((hashesB (wayL (hOfs l) n)) = true) then
                  bif eqb (bif true then (hashesS (wayL (hOfs l) n) (wayL (hOfs l) n)) else false) true then (bif eqb (bif true then (decide ((wayE (hOfs l) n) = (wayE (hOfs l) n))) else false) true then (bif eqb (bif true then (decide ((Vector.toList (leadsV h_2 n many (hOfs way))) = (Vector.toList (leadsV h_2 n many (hOfs way))))) else false) true then (bif eqb (bif true then (decide ((leadsE n many (hOfs way)) = (leadsE n many (hOfs way)))) else false) true then (some true)
                          else (some false))
                        else (some false))
                      else (some false))
                    else (some false)
                else none)
                else (some false))
              else (some false)
          else none
        else none
      else none))
theorem law09_MerkleTells_q (l : List PV) (n : Int) (h_2 : Vector UInt8 32) (many : Int) (way : List PV) : law09_MerkleTells l n h_2 many way = (bif decide ((100 : Int) < (((List.length l) : Nat) : Int)) then (if ((0 : Int) ≤ (0 : Int)) ∧ (((0 : Int) ≤ (100 : Int)) ∧ ((100 : Int) ≤ (((List.length l) : Nat) : Int))) then
      bif decide ((25 : Int) < (((List.length way) : Nat) : Int)) then (if ((0 : Int) ≤ (0 : Int)) ∧ (((0 : Int) ≤ (25 : Int)) ∧ ((25 : Int) ≤ (((List.length way) : Nat) : Int))) then
          if (hashesB (List.take ((Int.toNat (100 : Int)) - (Int.toNat (0 : Int))) (List.drop (Int.toNat (0 : Int)) l))) = true then
            if ((hashesB (List.take ((Int.toNat (100 : Int)) - (Int.toNat (0 : Int))) (List.drop (Int.toNat (0 : Int)) l))) = true) ∧ ((List.length (List.take ((Int.toNat (100 : Int)) - (Int.toNat (0 : Int))) (List.drop (Int.toNat (0 : Int)) l))) ≤ (1099511627700 : Nat)) then
              if (hashesB (List.take ((Int.toNat (25 : Int)) - (Int.toNat (0 : Int))) (List.drop (Int.toNat (0 : Int)) way))) = true then
                bif eqb (decide ((Vector.toList (rootV (hOfs (List.take ((Int.toNat (100 : Int)) - (Int.toNat (0 : Int))) (List.drop (Int.toNat (0 : Int)) l))))) = (Vector.toList (rootV (hOfs (List.take ((Int.toNat (100 : Int)) - (Int.toNat (0 : Int))) (List.drop (Int.toNat (0 : Int)) l))))))) true then (bif eqb (bif true then (decide ((rootB (hOfs (List.take ((Int.toNat (100 : Int)) - (Int.toNat (0 : Int))) (List.drop (Int.toNat (0 : Int)) l)))) = (rootB (hOfs (List.take ((Int.toNat (100 : Int)) - (Int.toNat (0 : Int))) (List.drop (Int.toNat (0 : Int)) l)))))) else false) true then (if ((hashesB (wayL (hOfs (List.take ((Int.toNat (100 : Int)) - (Int.toNat (0 : Int))) (List.drop (Int.toNat (0 : Int)) l))) n)) = true) ∧ ((hashesB (wayL (hOfs (List.take ((Int.toNat (100 : Int)) - (Int.toNat (0 : Int))) (List.drop (Int.toNat (0 : Int)) l))) n)) = true) then
                      bif eqb (bif true then (hashesS (wayL (hOfs (List.take ((Int.toNat (100 : Int)) - (Int.toNat (0 : Int))) (List.drop (Int.toNat (0 : Int)) l))) n) (wayL (hOfs (List.take ((Int.toNat (100 : Int)) - (Int.toNat (0 : Int))) (List.drop (Int.toNat (0 : Int)) l))) n)) else false) true then (bif eqb (bif true then (decide ((wayE (hOfs (List.take ((Int.toNat (100 : Int)) - (Int.toNat (0 : Int))) (List.drop (Int.toNat (0 : Int)) l))) n) = (wayE (hOfs (List.take ((Int.toNat (100 : Int)) - (Int.toNat (0 : Int))) (List.drop (Int.toNat (0 : Int)) l))) n))) else false) true then (bif eqb (bif true then (decide ((Vector.toList (leadsV h_2 n many (hOfs (List.take ((Int.toNat (25 : Int)) - (Int.toNat (0 : Int))) (List.drop (Int.toNat (0 : Int)) way))))) = (Vector.toList (leadsV h_2 n many (hOfs (List.take ((Int.toNat (25 : Int)) - (Int.toNat (0 : Int))) (List.drop (Int.toNat (0 : Int)) way))))))) else false) true then (bif eqb (bif true then (decide ((leadsE n many (hOfs (List.take ((Int.toNat (25 : Int)) - (Int.toNat (0 : Int))) (List.drop (Int.toNat (0 : Int)) way)))) = (leadsE n many (hOfs (List.take ((Int.toNat (25 : Int)) - (Int.toNat (0 : Int))) (List.drop (Int.toNat (0 : Int)) way)))))) else false) true then (some true)
                              else (some false))
                            else (some false))
                          else (some false))
                        else (some false)
                    else none)
                    else (some false))
                  else (some false)
              else none
            else none
          else none
        else none)
        else (if (hashesB (List.take ((Int.toNat (100 : Int)) - (Int.toNat (0 : Int))) (List.drop (Int.toNat (0 : Int)) l))) = true then
          if ((hashesB (List.take ((Int.toNat (100 : Int)) - (Int.toNat (0 : Int))) (List.drop (Int.toNat (0 : Int)) l))) = true) ∧ ((List.length (List.take ((Int.toNat (100 : Int)) - (Int.toNat (0 : Int))) (List.drop (Int.toNat (0 : Int)) l))) ≤ (1099511627700 : Nat)) then
            if (hashesB way) = true then
              bif eqb (decide ((Vector.toList (rootV (hOfs (List.take ((Int.toNat (100 : Int)) - (Int.toNat (0 : Int))) (List.drop (Int.toNat (0 : Int)) l))))) = (Vector.toList (rootV (hOfs (List.take ((Int.toNat (100 : Int)) - (Int.toNat (0 : Int))) (List.drop (Int.toNat (0 : Int)) l))))))) true then (bif eqb (bif true then (decide ((rootB (hOfs (List.take ((Int.toNat (100 : Int)) - (Int.toNat (0 : Int))) (List.drop (Int.toNat (0 : Int)) l)))) = (rootB (hOfs (List.take ((Int.toNat (100 : Int)) - (Int.toNat (0 : Int))) (List.drop (Int.toNat (0 : Int)) l)))))) else false) true then (if ((hashesB (wayL (hOfs (List.take ((Int.toNat (100 : Int)) - (Int.toNat (0 : Int))) (List.drop (Int.toNat (0 : Int)) l))) n)) = true) ∧ ((hashesB (wayL (hOfs (List.take ((Int.toNat (100 : Int)) - (Int.toNat (0 : Int))) (List.drop (Int.toNat (0 : Int)) l))) n)) = true) then
                    bif eqb (bif true then (hashesS (wayL (hOfs (List.take ((Int.toNat (100 : Int)) - (Int.toNat (0 : Int))) (List.drop (Int.toNat (0 : Int)) l))) n) (wayL (hOfs (List.take ((Int.toNat (100 : Int)) - (Int.toNat (0 : Int))) (List.drop (Int.toNat (0 : Int)) l))) n)) else false) true then (bif eqb (bif true then (decide ((wayE (hOfs (List.take ((Int.toNat (100 : Int)) - (Int.toNat (0 : Int))) (List.drop (Int.toNat (0 : Int)) l))) n) = (wayE (hOfs (List.take ((Int.toNat (100 : Int)) - (Int.toNat (0 : Int))) (List.drop (Int.toNat (0 : Int)) l))) n))) else false) true then (bif eqb (bif true then (decide ((Vector.toList (leadsV h_2 n many (hOfs way))) = (Vector.toList (leadsV h_2 n many (hOfs way))))) else false) true then (bif eqb (bif true then (decide ((leadsE n many (hOfs way)) = (leadsE n many (hOfs way)))) else false) true then (some true)
                            else (some false))
                          else (some false))
                        else (some false))
                      else (some false)
                  else none)
                  else (some false))
                else (some false)
            else none
          else none
        else none)
    else none)
    else (bif decide ((25 : Int) < (((List.length way) : Nat) : Int)) then (if ((0 : Int) ≤ (0 : Int)) ∧ (((0 : Int) ≤ (25 : Int)) ∧ ((25 : Int) ≤ (((List.length way) : Nat) : Int))) then
        if (hashesB l) = true then
          if ((hashesB l) = true) ∧ ((List.length l) ≤ (1099511627700 : Nat)) then
            if (hashesB (List.take ((Int.toNat (25 : Int)) - (Int.toNat (0 : Int))) (List.drop (Int.toNat (0 : Int)) way))) = true then
              bif eqb (decide ((Vector.toList (rootV (hOfs l))) = (Vector.toList (rootV (hOfs l))))) true then (bif eqb (bif true then (decide ((rootB (hOfs l)) = (rootB (hOfs l)))) else false) true then (if ((hashesB (wayL (hOfs l) n)) = true) ∧ ((hashesB (wayL (hOfs l) n)) = true) then
                    bif eqb (bif true then (hashesS (wayL (hOfs l) n) (wayL (hOfs l) n)) else false) true then (bif eqb (bif true then (decide ((wayE (hOfs l) n) = (wayE (hOfs l) n))) else false) true then (bif eqb (bif true then (decide ((Vector.toList (leadsV h_2 n many (hOfs (List.take ((Int.toNat (25 : Int)) - (Int.toNat (0 : Int))) (List.drop (Int.toNat (0 : Int)) way))))) = (Vector.toList (leadsV h_2 n many (hOfs (List.take ((Int.toNat (25 : Int)) - (Int.toNat (0 : Int))) (List.drop (Int.toNat (0 : Int)) way))))))) else false) true then (bif eqb (bif true then (decide ((leadsE n many (hOfs (List.take ((Int.toNat (25 : Int)) - (Int.toNat (0 : Int))) (List.drop (Int.toNat (0 : Int)) way)))) = (leadsE n many (hOfs (List.take ((Int.toNat (25 : Int)) - (Int.toNat (0 : Int))) (List.drop (Int.toNat (0 : Int)) way)))))) else false) true then (some true)
                            else (some false))
                          else (some false))
                        else (some false))
                      else (some false)
                  else none)
                  else (some false))
                else (some false)
            else none
          else none
        else none
      else none)
      else (if (hashesB l) = true then
        if ((hashesB l) = true) ∧ ((List.length l) ≤ (1099511627700 : Nat)) then
          if (hashesB way) = true then
            bif eqb (decide ((Vector.toList (rootV (hOfs l))) = (Vector.toList (rootV (hOfs l))))) true then (bif eqb (bif true then (decide ((rootB (hOfs l)) = (rootB (hOfs l)))) else false) true then (if ((hashesB (wayL (hOfs l) n)) = true) ∧ ((hashesB (wayL (hOfs l) n)) = true) then
                  bif eqb (bif true then (hashesS (wayL (hOfs l) n) (wayL (hOfs l) n)) else false) true then (bif eqb (bif true then (decide ((wayE (hOfs l) n) = (wayE (hOfs l) n))) else false) true then (bif eqb (bif true then (decide ((Vector.toList (leadsV h_2 n many (hOfs way))) = (Vector.toList (leadsV h_2 n many (hOfs way))))) else false) true then (bif eqb (bif true then (decide ((leadsE n many (hOfs way)) = (leadsE n many (hOfs way)))) else false) true then (some true)
                          else (some false))
                        else (some false))
                      else (some false))
                    else (some false)
                else none)
                else (some false))
              else (some false)
          else none
        else none
      else none))) := by kernel_rfl
theorem cut100 (l : List PV) : List.take (Int.toNat (100 : Int) - Int.toNat (0 : Int)) (List.drop (Int.toNat (0 : Int)) l) = l.take 100 := rfl
theorem cut25 (l : List PV) : List.take (Int.toNat (25 : Int) - Int.toNat (0 : Int)) (List.drop (Int.toNat (0 : Int)) l) = l.take 25 := rfl
theorem law09_MerkleTells_spec (l : List PV) (n : Int) (h : Vector UInt8 32) (many : Int) (way : List PV) (hp : hashesW l = true ∧ hashesW way = true) : law09_MerkleTells l n h many way = some true := by
  obtain ⟨hl, hw⟩ := hp
  have fact : ∀ x : List PV, hashesW x = true → x.length ≤ 100 → hashesB x = true ∧ x.length ≤ 1099511627700 ∧ hashesB (wayL (hOfs x) n) = true := fun x h1 h2 => by
    have := hOfs_len x
    exact ⟨hashesB_of h1 (by omega), by omega, wayL_ok (by omega) n⟩
  have t1 : hashesW (l.take 100) = true := all_take hl 100
  have t2 : hashesW (way.take 25) = true := all_take hw 25
  rw [law09_MerkleTells]
  by_cases c1 : (100 : Int) < (((List.length l) : Nat) : Int)
  · obtain ⟨f1, f2, f3⟩ := fact (l.take 100) t1 (by rw [List.length_take]; omega)
    rw [bif_pos c1, if_pos (by omega)]
    simp only [cut100, cut25]
    generalize l.take 100 = x at *
    by_cases c2 : (25 : Int) < (((List.length way) : Nat) : Int)
    · have g1 : hashesB (way.take 25) = true := hashesB_of t2 (by rw [List.length_take]; omega)
      rw [bif_pos c2, if_pos (by omega)]
      generalize way.take 25 = y at *
      simp [f1, f2, f3, g1, hashesS_self, eqb]
    · have g1 : hashesB way = true := hashesB_of hw (by omega)
      rw [bif_neg c2]
      simp [f1, f2, f3, g1, hashesS_self, eqb]
  · obtain ⟨f1, f2, f3⟩ := fact l hl (by omega)
    rw [bif_neg c1]
    simp only [cut100, cut25]
    by_cases c2 : (25 : Int) < (((List.length way) : Nat) : Int)
    · have g1 : hashesB (way.take 25) = true := hashesB_of t2 (by rw [List.length_take]; omega)
      rw [bif_pos c2, if_pos (by omega)]
      generalize way.take 25 = y at *
      simp [f1, f2, f3, g1, hashesS_self, eqb]
    · have g1 : hashesB way = true := hashesB_of hw (by omega)
      rw [bif_neg c2]
      simp [f1, f2, f3, g1, hashesS_self, eqb]

end
end Go.Proofs.YtbdajagcinfeeaaDoor.M

namespace Go.Proofs.YtbdajagcinfeeaaDoor.M
open Go
noncomputable section
set_option maxRecDepth 100000
set_option maxHeartbeats 0
noncomputable def law09_MerkleTells_T : Tbl := [(11, [], merkle_Root_c), (17, [], ref09_Root_c), (14, [], merkle_Way_c), (15, [], ref09_Way_c), (18, [], merkle_Leads_c), (19, [], ref09_Leads_c), (16, [], ref00_Hashes_c), (12, [], law09_works_c)]
noncomputable def law09_MerkleTells_C : CfgW := mkC Tryd.prog theG law09_MerkleTells_T 102 0 false
def law09_MerkleTells_lv : Nat → List Nat := fun i => []
noncomputable abbrev law09_MerkleTells_b : Code := Tryd.f5.body.getD .skip
noncomputable abbrev law09_MerkleTells_r : List ResultVar := Tryd.f5.results.toList
def law09_MerkleTells_hs : List Nat := []

def law09_MerkleTells_enc (r : Bool) : CallOut := ⟨.pv (.sc .b r), [], true, []⟩
theorem law09_MerkleTells_e (l : List PV) (n : Int) (h_2 : Vector UInt8 32) (many : Int) (way : List PV) (Q : CallOut → Prop) : evalFnP law09_MerkleTells_C law09_MerkleTells_lv law09_MerkleTells_r law09_MerkleTells_hs law09_MerkleTells_b [.pv (.sp 32 l), .pv (.sc .i n), .pv (.arr .u8 32 h_2), .pv (.sc .i many), .pv (.sp 32 way)] [] Q =
    (condP (decide ((100 : Int) < (((List.length l) : Nat) : Int))) ((((0 : Int) ≤ (0 : Int)) ∧ (((0 : Int) ≤ (100 : Int)) ∧ ((100 : Int) ≤ (((List.length l) : Nat) : Int)))) ∧ (condP (decide ((25 : Int) < (((List.length way) : Nat) : Int))) ((((0 : Int) ≤ (0 : Int)) ∧ (((0 : Int) ≤ (25 : Int)) ∧ ((25 : Int) ≤ (((List.length way) : Nat) : Int)))) ∧ (((hashesB (List.take ((Int.toNat (100 : Int)) - (Int.toNat (0 : Int))) (List.drop (Int.toNat (0 : Int)) l))) = true) ∧ ((((hashesB (List.take ((Int.toNat (100 : Int)) - (Int.toNat (0 : Int))) (List.drop (Int.toNat (0 : Int)) l))) = true) ∧ ((List.length (List.take ((Int.toNat (100 : Int)) - (Int.toNat (0 : Int))) (List.drop (Int.toNat (0 : Int)) l))) ≤ (1099511627700 : Nat))) ∧ (((hashesB (List.take ((Int.toNat (100 : Int)) - (Int.toNat (0 : Int))) (List.drop (Int.toNat (0 : Int)) l))) = true) ∧ ((((hashesB (List.take ((Int.toNat (100 : Int)) - (Int.toNat (0 : Int))) (List.drop (Int.toNat (0 : Int)) l))) = true) ∧ ((List.length (List.take ((Int.toNat (100 : Int)) - (Int.toNat (0 : Int))) (List.drop (Int.toNat (0 : Int)) l))) ≤ (1099511627700 : Nat))) ∧ (((hashesB (List.take ((Int.toNat (25 : Int)) - (Int.toNat (0 : Int))) (List.drop (Int.toNat (0 : Int)) way))) = true) ∧ (((hashesB (List.take ((Int.toNat (25 : Int)) - (Int.toNat (0 : Int))) (List.drop (Int.toNat (0 : Int)) way))) = true) ∧ (condP (eqb (decide ((Vector.toList (rootV (hOfs (List.take ((Int.toNat (100 : Int)) - (Int.toNat (0 : Int))) (List.drop (Int.toNat (0 : Int)) l))))) = (Vector.toList (rootV (hOfs (List.take ((Int.toNat (100 : Int)) - (Int.toNat (0 : Int))) (List.drop (Int.toNat (0 : Int)) l))))))) true) (condP (eqb (bif true then (decide ((rootB (hOfs (List.take ((Int.toNat (100 : Int)) - (Int.toNat (0 : Int))) (List.drop (Int.toNat (0 : Int)) l)))) = (rootB (hOfs (List.take ((Int.toNat (100 : Int)) - (Int.toNat (0 : Int))) (List.drop (Int.toNat (0 : Int)) l)))))) else false) true) ((((hashesB (wayL (hOfs (List.take ((Int.toNat (100 : Int)) - (Int.toNat (0 : Int))) (List.drop (Int.toNat (0 : Int)) l))) n)) = true) ∧ ((hashesB (wayL (hOfs (List.take ((Int.toNat (100 : Int)) - (Int.toNat (0 : Int))) (List.drop (Int.toNat (0 : Int)) l))) n)) = true)) ∧ (condP (eqb (bif true then (hashesS (wayL (hOfs (List.take ((Int.toNat (100 : Int)) - (Int.toNat (0 : Int))) (List.drop (Int.toNat (0 : Int)) l))) n) (wayL (hOfs (List.take ((Int.toNat (100 : Int)) - (Int.toNat (0 : Int))) (List.drop (Int.toNat (0 : Int)) l))) n)) else false) true) (condP (eqb (bif true then (decide ((wayE (hOfs (List.take ((Int.toNat (100 : Int)) - (Int.toNat (0 : Int))) (List.drop (Int.toNat (0 : Int)) l))) n) = (wayE (hOfs (List.take ((Int.toNat (100 : Int)) - (Int.toNat (0 : Int))) (List.drop (Int.toNat (0 : Int)) l))) n))) else false) true) (condP (eqb (bif true then (decide ((Vector.toList (leadsV h_2 n many (hOfs (List.take ((Int.toNat (25 : Int)) - (Int.toNat (0 : Int))) (List.drop (Int.toNat (0 : Int)) way))))) = (Vector.toList (leadsV h_2 n many (hOfs (List.take ((Int.toNat (25 : Int)) - (Int.toNat (0 : Int))) (List.drop (Int.toNat (0 : Int)) way))))))) else false) true) (condP (eqb (bif true then (decide ((leadsE n many (hOfs (List.take ((Int.toNat (25 : Int)) - (Int.toNat (0 : Int))) (List.drop (Int.toNat (0 : Int)) way)))) = (leadsE n many (hOfs (List.take ((Int.toNat (25 : Int)) - (Int.toNat (0 : Int))) (List.drop (Int.toNat (0 : Int)) way)))))) else false) true) (Q (law09_MerkleTells_enc true)) (Q (law09_MerkleTells_enc false))) (Q (law09_MerkleTells_enc false))) (Q (law09_MerkleTells_enc false))) (Q (law09_MerkleTells_enc false)))) (Q (law09_MerkleTells_enc false))) (Q (law09_MerkleTells_enc false)))))))))) (((hashesB (List.take ((Int.toNat (100 : Int)) - (Int.toNat (0 : Int))) (List.drop (Int.toNat (0 : Int)) l))) = true) ∧ ((((hashesB (List.take ((Int.toNat (100 : Int)) - (Int.toNat (0 : Int))) (List.drop (Int.toNat (0 : Int)) l))) = true) ∧ ((List.length (List.take ((Int.toNat (100 : Int)) - (Int.toNat (0 : Int))) (List.drop (Int.toNat (0 : Int)) l))) ≤ (1099511627700 : Nat))) ∧ (((hashesB (List.take ((Int.toNat (100 : Int)) - (Int.toNat (0 : Int))) (List.drop (Int.toNat (0 : Int)) l))) = true) ∧ ((((hashesB (List.take ((Int.toNat (100 : Int)) - (Int.toNat (0 : Int))) (List.drop (Int.toNat (0 : Int)) l))) = true) ∧ ((List.length (List.take ((Int.toNat (100 : Int)) - (Int.toNat (0 : Int))) (List.drop (Int.toNat (0 : Int)) l))) ≤ (1099511627700 : Nat))) ∧ (((hashesB way) = true) ∧ (((hashesB way) = true) ∧ (condP (eqb (decide ((Vector.toList (rootV (hOfs (List.take ((Int.toNat (100 : Int)) - (Int.toNat (0 : Int))) (List.drop (Int.toNat (0 : Int)) l))))) = (Vector.toList (rootV (hOfs (List.take ((Int.toNat (100 : Int)) - (Int.toNat (0 : Int))) (List.drop (Int.toNat (0 : Int)) l))))))) true) (condP (eqb (bif true then (decide ((rootB (hOfs (List.take ((Int.toNat (100 : Int)) - (Int.toNat (0 : Int))) (List.drop (Int.toNat (0 : Int)) l)))) = (rootB (hOfs (List.take ((Int.toNat (100 : Int)) - (Int.toNat (0 : Int))) (List.drop (Int.toNat (0 : Int)) l)))))) else false) true) ((((hashesB (wayL (hOfs (List.take ((Int.toNat (100 : Int)) - (Int.toNat (0 : Int))) (List.drop (Int.toNat (0 : Int)) l))) n)) = true) ∧ ((hashesB (wayL (hOfs (List.take ((Int.toNat (100 : Int)) - (Int.toNat (0 : Int))) (List.drop (Int.toNat (0 : Int)) l))) n)) = true)) ∧ (condP (eqb (bif true then (hashesS (wayL (hOfs (List.take ((Int.toNat (100 : Int)) - (Int.toNat (0 : Int))) (List.drop (Int.toNat (0 : Int)) l))) n) (wayL (hOfs (List.take ((Int.toNat (100 : Int)) - (Int.toNat (0 : Int))) (List.drop (Int.toNat (0 : Int)) l))) n)) else false) true) (condP (eqb (bif true then (decide ((wayE (hOfs (List.take ((Int.toNat (100 : Int)) - (Int.toNat (0 : Int))) (List.drop (Int.toNat (0 : Int)) l))) n) = (wayE (hOfs (List.take ((Int.toNat (100 : Int)) - (Int.toNat (0 : Int))) (List.drop (Int.toNat (0 : Int)) l))) n))) else false) true) (condP (eqb (bif true then (decide ((Vector.toList (leadsV h_2 n many (hOfs way))) = (Vector.toList (leadsV h_2 n many (hOfs way))))) else false) true) (condP (eqb (bif true then (decide ((leadsE n many (hOfs way)) = (leadsE n many (hOfs way)))) else false) true) (Q (law09_MerkleTells_enc true)) (Q (law09_MerkleTells_enc false))) (Q (law09_MerkleTells_enc false))) (Q (law09_MerkleTells_enc false))) (Q (law09_MerkleTells_enc false)))) (Q (law09_MerkleTells_enc false))) (Q (law09_MerkleTells_enc false))))))))))) (condP (decide ((25 : Int) < (((List.length way) : Nat) : Int))) ((((0 : Int) ≤ (0 : Int)) ∧ (((0 : Int) ≤ (25 : Int)) ∧ ((25 : Int) ≤ (((List.length way) : Nat) : Int)))) ∧ (((hashesB l) = true) ∧ ((((hashesB l) = true) ∧ ((List.length l) ≤ (1099511627700 : Nat))) ∧ (((hashesB l) = true) ∧ ((((hashesB l) = true) ∧ ((List.length l) ≤ (1099511627700 : Nat))) ∧ (((hashesB (List.take ((Int.toNat (25 : Int)) - (Int.toNat (0 : Int))) (List.drop (Int.toNat (0 : Int)) way))) = true) ∧ (((hashesB (List.take ((Int.toNat (25 : Int)) - (Int.toNat (0 : Int))) (List.drop (Int.toNat (0 : Int)) way))) = true) ∧ (condP (eqb (decide ((Vector.toList (rootV (hOfs l))) = (Vector.toList (rootV (hOfs l))))) true) (condP (eqb (bif true then (decide ((rootB (hOfs l)) = (rootB (hOfs l)))) else false) true) ((((hashesB (wayL (hOfs l) n)) = true) ∧ ((hashesB (wayL (hOfs l) n)) = true)) ∧ (condP (eqb (bif true then (hashesS (wayL (hOfs l) n) (wayL (hOfs l) n)) else false) true) (condP (eqb (bif true then (decide ((wayE (hOfs l) n) = (wayE (hOfs l) n))) else false) true) (condP (eqb (bif true then (decide ((Vector.toList (leadsV h_2 n many (hOfs (List.take ((Int.toNat (25 : Int)) - (Int.toNat (0 : Int))) (List.drop (Int.toNat (0 : Int)) way))))) = (Vector.toList (leadsV h_2 n many (hOfs (List.take ((Int.toNat (25 : Int)) - (Int.toNat (0 : Int))) (List.drop (Int.toNat (0 : Int)) way))))))) else false) true) (condP (eqb (bif true then (decide ((leadsE n many (hOfs (List.take ((Int.toNat (25 : Int)) - (Int.toNat (0 : Int))) (List.drop (Int.toNat (0 : Int)) way)))) = (leadsE n many (hOfs (List.take ((Int.toNat (25 : Int)) - (Int.toNat (0 : Int))) (List.drop (Int.toNat (0 : Int)) way)))))) else false) true) (Q (law09_MerkleTells_enc true)) (Q (law09_MerkleTells_enc false))) (Q (law09_MerkleTells_enc false))) (Q (law09_MerkleTells_enc false))) (Q (law09_MerkleTells_enc false)))) (Q (law09_MerkleTells_enc false))) (Q (law09_MerkleTells_enc false)))))))))) (((hashesB l) = true) ∧ ((((hashesB l) = true) ∧ ((List.length l) ≤ (1099511627700 : Nat))) ∧ (((hashesB l) = true) ∧ ((((hashesB l) = true) ∧ ((List.length l) ≤ (1099511627700 : Nat))) ∧ (((hashesB way) = true) ∧ (((hashesB way) = true) ∧ (condP (eqb (decide ((Vector.toList (rootV (hOfs l))) = (Vector.toList (rootV (hOfs l))))) true) (condP (eqb (bif true then (decide ((rootB (hOfs l)) = (rootB (hOfs l)))) else false) true) ((((hashesB (wayL (hOfs l) n)) = true) ∧ ((hashesB (wayL (hOfs l) n)) = true)) ∧ (condP (eqb (bif true then (hashesS (wayL (hOfs l) n) (wayL (hOfs l) n)) else false) true) (condP (eqb (bif true then (decide ((wayE (hOfs l) n) = (wayE (hOfs l) n))) else false) true) (condP (eqb (bif true then (decide ((Vector.toList (leadsV h_2 n many (hOfs way))) = (Vector.toList (leadsV h_2 n many (hOfs way))))) else false) true) (condP (eqb (bif true then (decide ((leadsE n many (hOfs way)) = (leadsE n many (hOfs way)))) else false) true) (Q (law09_MerkleTells_enc true)) (Q (law09_MerkleTells_enc false))) (Q (law09_MerkleTells_enc false))) (Q (law09_MerkleTells_enc false))) (Q (law09_MerkleTells_enc false)))) (Q (law09_MerkleTells_enc false))) (Q (law09_MerkleTells_enc false))))))))))) := by kernel_rfl
theorem law09_MerkleTells_w (l : List PV) (n : Int) (h_2 : Vector UInt8 32) (many : Int) (way : List PV) {r} {Q : CallOut → Prop} (h : law09_MerkleTells l n h_2 many way = some r) (hQ : Q (law09_MerkleTells_enc r)) : evalFnP law09_MerkleTells_C law09_MerkleTells_lv law09_MerkleTells_r law09_MerkleTells_hs law09_MerkleTells_b [.pv (.sp 32 l), .pv (.sc .i n), .pv (.arr .u8 32 h_2), .pv (.sc .i many), .pv (.sp 32 way)] [] Q :=
  Eq.mpr (law09_MerkleTells_e l n h_2 many way Q) (have h := (law09_MerkleTells_q l n h_2 many way).symm.trans h; cond_ok h (fun h => ite_ok h fun hc0 h => cond_ok h (fun h => ite_ok h fun hc1 h => ite_ok h fun hc2 h => ite_ok h fun hc3 h => ⟨hc2, ⟨hc3, ite_ok h fun hc4 h => ⟨hc4, cond_ok h (fun h => cond_ok h (fun h => ite_ok h fun hc5 h => cond_ok h (fun h => cond_ok h (fun h => cond_ok h (fun h => cond_ok h (fun h => ret_ok (Q := Q) (e := law09_MerkleTells_enc) h hQ) (fun h => ret_ok (Q := Q) (e := law09_MerkleTells_enc) h hQ)) (fun h => ret_ok (Q := Q) (e := law09_MerkleTells_enc) h hQ)) (fun h => ret_ok (Q := Q) (e := law09_MerkleTells_enc) h hQ)) (fun h => ret_ok (Q := Q) (e := law09_MerkleTells_enc) h hQ)) (fun h => ret_ok (Q := Q) (e := law09_MerkleTells_enc) h hQ)) (fun h => ret_ok (Q := Q) (e := law09_MerkleTells_enc) h hQ)⟩⟩⟩) (fun h => ite_ok h fun hc1 h => ite_ok h fun hc2 h => ⟨hc1, ⟨hc2, ite_ok h fun hc3 h => ⟨hc3, cond_ok h (fun h => cond_ok h (fun h => ite_ok h fun hc4 h => cond_ok h (fun h => cond_ok h (fun h => cond_ok h (fun h => cond_ok h (fun h => ret_ok (Q := Q) (e := law09_MerkleTells_enc) h hQ) (fun h => ret_ok (Q := Q) (e := law09_MerkleTells_enc) h hQ)) (fun h => ret_ok (Q := Q) (e := law09_MerkleTells_enc) h hQ)) (fun h => ret_ok (Q := Q) (e := law09_MerkleTells_enc) h hQ)) (fun h => ret_ok (Q := Q) (e := law09_MerkleTells_enc) h hQ)) (fun h => ret_ok (Q := Q) (e := law09_MerkleTells_enc) h hQ)) (fun h => ret_ok (Q := Q) (e := law09_MerkleTells_enc) h hQ)⟩⟩⟩)) (fun h => cond_ok h (fun h => ite_ok h fun hc0 h => ite_ok h fun hc1 h => ite_ok h fun hc2 h => ⟨hc1, ⟨hc2, ite_ok h fun hc3 h => ⟨hc3, cond_ok h (fun h => cond_ok h (fun h => ite_ok h fun hc4 h => cond_ok h (fun h => cond_ok h (fun h => cond_ok h (fun h => cond_ok h (fun h => ret_ok (Q := Q) (e := law09_MerkleTells_enc) h hQ) (fun h => ret_ok (Q := Q) (e := law09_MerkleTells_enc) h hQ)) (fun h => ret_ok (Q := Q) (e := law09_MerkleTells_enc) h hQ)) (fun h => ret_ok (Q := Q) (e := law09_MerkleTells_enc) h hQ)) (fun h => ret_ok (Q := Q) (e := law09_MerkleTells_enc) h hQ)) (fun h => ret_ok (Q := Q) (e := law09_MerkleTells_enc) h hQ)) (fun h => ret_ok (Q := Q) (e := law09_MerkleTells_enc) h hQ)⟩⟩⟩) (fun h => ite_ok h fun hc0 h => ite_ok h fun hc1 h => ⟨hc0, ⟨hc1, ite_ok h fun hc2 h => ⟨hc2, cond_ok h (fun h => cond_ok h (fun h => ite_ok h fun hc3 h => cond_ok h (fun h => cond_ok h (fun h => cond_ok h (fun h => cond_ok h (fun h => ret_ok (Q := Q) (e := law09_MerkleTells_enc) h hQ) (fun h => ret_ok (Q := Q) (e := law09_MerkleTells_enc) h hQ)) (fun h => ret_ok (Q := Q) (e := law09_MerkleTells_enc) h hQ)) (fun h => ret_ok (Q := Q) (e := law09_MerkleTells_enc) h hQ)) (fun h => ret_ok (Q := Q) (e := law09_MerkleTells_enc) h hQ)) (fun h => ret_ok (Q := Q) (e := law09_MerkleTells_enc) h hQ)) (fun h => ret_ok (Q := Q) (e := law09_MerkleTells_enc) h hQ)⟩⟩⟩)))
def law09_MerkleTells_c : Ans
  | [.pv (.sp 32 l), .pv (.sc .i n), .pv (.arr .u8 32 h_2), .pv (.sc .i many), .pv (.sp 32 way)], [] => some (some (hashesW l = true ∧ hashesW way = true), law09_MerkleTells_enc (true))
  | _, _ => none
theorem law09_MerkleTells_tok : TblOK Tryd.prog theG law09_MerkleTells_T := .cons ⟨by kernel_rfl, merkle_Root_ok⟩ (.cons ⟨by kernel_rfl, ref09_Root_ok⟩ (.cons ⟨by kernel_rfl, merkle_Way_ok⟩ (.cons ⟨by kernel_rfl, ref09_Way_ok⟩ (.cons ⟨by kernel_rfl, merkle_Leads_ok⟩ (.cons ⟨by kernel_rfl, ref09_Leads_ok⟩ (.cons ⟨by kernel_rfl, ref00_Hashes_ok⟩ (.cons ⟨by kernel_rfl, law09_works_ok⟩ (.nil))))))))
theorem law09_MerkleTells_ok : FnOK Tryd.prog theG 5 (unW law09_MerkleTells_c) := by
  refine FnOK.ofC (T := law09_MerkleTells_T) (nt := 102) (np := 0) (nf := false) (hs := law09_MerkleTells_hs) (fn := Tryd.f5) (body := law09_MerkleTells_b) law09_MerkleTells_tok (by kernel_rfl) (by kernel_rfl) (by kernel_rfl) (by kernel_rfl) (c := law09_MerkleTells_c) (lv := law09_MerkleTells_lv) ?_
  intro xs mem p out h hp
  unfold law09_MerkleTells_c at h
  split at h
  · cases h
    exact law09_MerkleTells_w _ _ _ _ _ (law09_MerkleTells_spec _ _ _ _ _ hp) rfl
  · cases h
end
end Go.Proofs.YtbdajagcinfeeaaDoor.M

namespace Go.Proofs.YtbdajagcinfeeaaDoor
open Go Go.ChangeShapes Go.WideShapes Go.ChangeAt Go.RowKit
open Go.Proofs.YtbdajagcinfeeaaDoor
theorem law09_MerkleTells_own : ownKnob Tryd.prog.godebug = none := by kernel_rfl
theorem law09_MerkleTells_law : ∀ ys : List M.PV, M.FitL [.sp 32 (.arr .u8 32), .sc .i, .arr .u8 32, .sc .i, .sp 32 (.arr .u8 32)] ys → ∃ p out, M.law09_MerkleTells_c (ys.map .pv) [] = some (p, out) ∧ p.h ∧ out.val = .pv (.sc .b true) := by
  rintro ys ⟨_, _, rfl, ⟨x0, rfl, hx0, lx0⟩, ⟨_, _, rfl, ⟨x1, rfl, hx1⟩, ⟨_, _, rfl, ⟨x2, rfl, hx2⟩, ⟨_, _, rfl, ⟨x3, rfl, hx3⟩, ⟨_, _, rfl, ⟨x4, rfl, hx4, lx4⟩, rfl⟩⟩⟩⟩⟩
  exact ⟨_, _, rfl, ⟨M.hashesW_fit hx0, M.hashesW_fit hx4⟩, rfl⟩
set_option maxRecDepth 100000 in
theorem law09_MerkleTells_lifted (os : Os) (started : os.Started) (H : Type) (enc : TypeId × Value → H) :
    ReturnsInHanded {} Tryd.checked os 5 .any (fun w args => (Rows.merkleTellsSpec.pre enc Tryd.prog Tryd.f5 [] false w args ∧ laidMetH Tryd.prog Rows.merkleTellsRow.laid w) ∧ sizedMet enc Tryd.prog Tryd.f5 (OpenSpec.ofChange Rows.merkleTellsSpec) false w args)
      (Rows.merkleTellsSpec.post enc Tryd.prog Tryd.f5 false true false false) := by
  refine returnsInHanded_of_change_and (C := Tryd.checked) (X := fun w _ => laidMetH Tryd.prog Rows.merkleTellsRow.laid w) (fun _ _ _ hh h => h.of_heap hh) law09_MerkleTells_own started (by kernel_rfl) (by kernel_rfl)
    (ChangeSpec.witness_shaped (enc := enc) (C := Tryd.checked) (os := os) (X := fun w _ => laidMetH Tryd.prog Rows.merkleTellsRow.laid w) false (World.laidAll Tryd.prog os Rows.merkleTellsRow.laid) #[.slice none 0 0, .int .i64 0, .agg (Array.replicate 32 (.int .u8 0)), .int .i64 0, .slice none 0 0] 8 (World.laidAll_os _ _ _)
      (World.shaped_of_ZipB (by kernel_rfl) (by kernel_rfl)) (by kernel_rfl) (by kernel_rfl) (by kernel_rfl)
      (by rw [MakeChecks.laidMetH_plain _ _ _ (by kernel_rfl)]; exact laidMet_laidAll _ (by kernel_rfl) (by kernel_rfl))) ?_
  intro W base args ds gs before hval hW _ hsz hL _
  exact M.law_contract (ss := [.sp 32 (.arr .u8 32), .sc .i, .arr .u8 32, .sc .i, .sp 32 (.arr .u8 32)]) (G := M.theG) (c := M.law09_MerkleTells_c) (tb := 4) rfl (fun ds h => by
      match ds, h with
      | [d0, d1, d2, d3, d4], _ => rfl) (by kernel_rfl) (by kernel_rfl) (by kernel_rfl) (by kernel_rfl) (by kernel_rfl) M.law09_MerkleTells_ok law09_MerkleTells_law hval hW hsz (M.globs (by rwa [MakeChecks.laidMetH_plain _ _ _ (by kernel_rfl)] at hL))
theorem merkleTells_row : Rows.MerkleTellsSaid :=
  OpenClaim.holds_of_wide 5 Tryd.f5 rfl rfl rfl rfl rfl rfl rfl ⟨rfl, rfl, rfl, rfl, rfl⟩ rfl rfl rfl rfl rfl (by kernel_rfl) (by kernel_rfl) (by kernel_rfl)
    (of_decide_eq_true (by kernel_rfl)) (by unfold Func.isWrapper; first | (rw [if_pos (by decide +kernel)]; kernel_rfl) | (rw [if_neg (by decide +kernel)]; exact ⟨rfl, rfl⟩))
    (fun os started H enc _ => law09_MerkleTells_lifted os started H enc)
theorem merkleTells_card : Rows.MerkleTellsCardSaid :=
  Claim7.holds_tied_plain_at .later [] [.data] true (true, "3f586422b4bcc8e156c7a75eeef5cb184319f97d1faa08789495172fa4ab45b4") false merkleTells_row (fun _ h => by cases h) (by kernel_rfl) (fun _ h => by cases h) merkleTells_row_tie rfl ⟨rfl, rfl⟩ (by kernel_rfl) rfl
    (fun f fn hf hfn => by
      obtain rfl : f = 5 := Option.some.inj ((show Tryd.prog.funcNamed "moneyer/moneyerlaw09.MerkleTells" = some 5 by kernel_rfl).symm.trans hf) |>.symm
      obtain rfl : fn = Tryd.f5 := (Option.some.inj ((show Tryd.prog.funcs[5]? = some Tryd.f5 by kernel_rfl).symm.trans hfn)).symm
      exact ⟨by kernel_rfl, fun j t ht => by
        have hp : Tryd.f5.params = #[22, 3, 24, 3, 22] := by kernel_rfl
        rw [hp] at ht
        have hm : t ∈ [22, 3, 24, 3, 22] := by simpa using Array.mem_of_getElem? ht
        have hall : ([22, 3, 24, 3, 22].all fun u => !Tryd.prog.wantsStandIn u) = true := by kernel_rfl
        exact (show Tryd.prog.wantsStandIn t = false by simpa using List.all_eq_true.1 hall t hm)⟩)
    (by kernel_rfl)
#print axioms merkleTells_card
end Go.Proofs.YtbdajagcinfeeaaDoor
