/- Part of the proofs: what functions of the program do: plain functions, and the walks that show it. No condition. -/
import Derived.KernelRfl
import Derived.Test.YtbdajagcinfeeaaDoorProg
import Derived.Test.YtbdajagcinfeeaaDoorLe
import Derived.Test.YtbdajagcinfeeaaDoorFmerkle
import Derived.Test.YtbdajagcinfeeaaDoorSwords
import Derived.Test.YtbdajagcinfeeaaDoorSshaS
import Derived.Test.YtbdajagcinfeeaaDoorSmerS
import Derived.Test.YtbdajagcinfeeaaDoorSbigS
import Derived.Test.YtbdajagcinfeeaaDoorFref02
import Derived.Test.YtbdajagcinfeeaaDoorFref00
import Derived.Test.YtbdajagcinfeeaaDoorSshaK
set_option linter.unusedVariables false
set_option linter.unusedSimpArgs false
set_option autoImplicit false
namespace Go.Proofs.YtbdajagcinfeeaaDoor.M
open Go
noncomputable section
/-- moneyer/moneyerlaw09.works -/
def law09_works  : Option (Bool) :=
  bif eqb (!(rootB (hOfs ([] : List PV)))) true then (bif eqb (bif true then (decide ((Vector.toList (rootV (hOfs ([(PV.arr EK.u8 (32 : Nat) (Vector.setIfInBounds (Vector.replicate (32 : Nat) (0 : UInt8)) (0 : Nat) (1 : UInt8)))] : List PV)))) = (Vector.toList (Vector.setIfInBounds (Vector.replicate (32 : Nat) (0 : UInt8)) (0 : Nat) (1 : UInt8))))) else false) true then (bif eqb (bif true then (rootB (hOfs ([(PV.arr EK.u8 (32 : Nat) (Vector.setIfInBounds (Vector.replicate (32 : Nat) (0 : UInt8)) (0 : Nat) (1 : UInt8)))] : List PV))) else false) true then (bif eqb (bif true then (!(rootB (hOfs ([(PV.arr EK.u8 (32 : Nat) (Vector.setIfInBounds (Vector.replicate (32 : Nat) (0 : UInt8)) (0 : Nat) (1 : UInt8))), (PV.arr EK.u8 (32 : Nat) (Vector.setIfInBounds (Vector.replicate (32 : Nat) (0 : UInt8)) (0 : Nat) (1 : UInt8)))] : List PV)))) else false) true then (bif eqb (bif true then (rootB (hOfs ([(PV.arr EK.u8 (32 : Nat) (Vector.setIfInBounds (Vector.replicate (32 : Nat) (0 : UInt8)) (0 : Nat) (1 : UInt8))), (PV.arr EK.u8 (32 : Nat) (Vector.setIfInBounds (Vector.replicate (32 : Nat) (0 : UInt8)) (0 : Nat) (2 : UInt8))), (PV.arr EK.u8 (32 : Nat) (Vector.setIfInBounds (Vector.replicate (32 : Nat) (0 : UInt8)) (0 : Nat) (2 : UInt8)))] : List PV))) else false) true then (bif eqb (bif true then (decide ((((List.length (wayL (hOfs ([(PV.arr EK.u8 (32 : Nat) (Vector.setIfInBounds (Vector.replicate (32 : Nat) (0 : UInt8)) (0 : Nat) (1 : UInt8))), (PV.arr EK.u8 (32 : Nat) (Vector.setIfInBounds (Vector.replicate (32 : Nat) (0 : UInt8)) (0 : Nat) (2 : UInt8))), (PV.arr EK.u8 (32 : Nat) (Vector.setIfInBounds (Vector.replicate (32 : Nat) (0 : UInt8)) (0 : Nat) (1 : UInt8)))] : List PV)) (2 : Int))) : Nat) : Int) = (2 : Int))) else false) true then (if ((0 : Int) ≤ (0 : Int)) ∧ ((0 : Int) < (((List.length (wayL (hOfs ([(PV.arr EK.u8 (32 : Nat) (Vector.setIfInBounds (Vector.replicate (32 : Nat) (0 : UInt8)) (0 : Nat) (1 : UInt8))), (PV.arr EK.u8 (32 : Nat) (Vector.setIfInBounds (Vector.replicate (32 : Nat) (0 : UInt8)) (0 : Nat) (2 : UInt8))), (PV.arr EK.u8 (32 : Nat) (Vector.setIfInBounds (Vector.replicate (32 : Nat) (0 : UInt8)) (0 : Nat) (1 : UInt8)))] : List PV)) (2 : Int))) : Nat) : Int)) then
                if (TY.chk (TY.arr EK.u8 (32 : Nat)) (RC.get (RC.p (32 : Nat) (wayL (hOfs ([(PV.arr EK.u8 (32 : Nat) (Vector.setIfInBounds (Vector.replicate (32 : Nat) (0 : UInt8)) (0 : Nat) (1 : UInt8))), (PV.arr EK.u8 (32 : Nat) (Vector.setIfInBounds (Vector.replicate (32 : Nat) (0 : UInt8)) (0 : Nat) (2 : UInt8))), (PV.arr EK.u8 (32 : Nat) (Vector.setIfInBounds (Vector.replicate (32 : Nat) (0 : UInt8)) (0 : Nat) (1 : UInt8)))] : List PV)) (2 : Int))) ([(PE.i (0 : Nat))] : List PE))) = true then
                  bif eqb (bif true then (decide ((Vector.toList (PV.vecv EK.u8 (32 : Nat) (RC.get (RC.p (32 : Nat) (wayL (hOfs ([(PV.arr EK.u8 (32 : Nat) (Vector.setIfInBounds (Vector.replicate (32 : Nat) (0 : UInt8)) (0 : Nat) (1 : UInt8))), (PV.arr EK.u8 (32 : Nat) (Vector.setIfInBounds (Vector.replicate (32 : Nat) (0 : UInt8)) (0 : Nat) (2 : UInt8))), (PV.arr EK.u8 (32 : Nat) (Vector.setIfInBounds (Vector.replicate (32 : Nat) (0 : UInt8)) (0 : Nat) (1 : UInt8)))] : List PV)) (2 : Int))) ([(PE.i (0 : Nat))] : List PE)))) = (Vector.toList (Vector.setIfInBounds (Vector.replicate (32 : Nat) (0 : UInt8)) (0 : Nat) (1 : UInt8))))) else false) true then (bif eqb (bif true then (decide ((wayE (hOfs ([(PV.arr EK.u8 (32 : Nat) (Vector.setIfInBounds (Vector.replicate (32 : Nat) (0 : UInt8)) (0 : Nat) (1 : UInt8))), (PV.arr EK.u8 (32 : Nat) (Vector.setIfInBounds (Vector.replicate (32 : Nat) (0 : UInt8)) (0 : Nat) (2 : UInt8))), (PV.arr EK.u8 (32 : Nat) (Vector.setIfInBounds (Vector.replicate (32 : Nat) (0 : UInt8)) (0 : Nat) (1 : UInt8)))] : List PV)) (2 : Int)) = (0 : Int))) else false) true then (some (bif true then (decide ((wayE (hOfs ([(PV.arr EK.u8 (32 : Nat) (Vector.setIfInBounds (Vector.replicate (32 : Nat) (0 : UInt8)) (0 : Nat) (1 : UInt8))), (PV.arr EK.u8 (32 : Nat) (Vector.setIfInBounds (Vector.replicate (32 : Nat) (0 : UInt8)) (0 : Nat) (2 : UInt8))), (PV.arr EK.u8 (32 : Nat) (Vector.setIfInBounds (Vector.replicate (32 : Nat) (0 : UInt8)) (0 : Nat) (1 : UInt8)))] : List PV)) (3 : Int)) = (2 : Int))) else false))
                      else (some false))
                    else (some false)
                else none
              else none)
              else (some false))
            else (some false))
          else (some false))
        else (some false))
      else (some false))
    else (some false)
theorem law09_works_q  : law09_works  = (bif eqb (!(rootB (hOfs ([] : List PV)))) true then (bif eqb (bif true then (decide ((Vector.toList (rootV (hOfs ([(PV.arr EK.u8 (32 : Nat) (Vector.setIfInBounds (Vector.replicate (32 : Nat) (0 : UInt8)) (0 : Nat) (1 : UInt8)))] : List PV)))) = (Vector.toList (Vector.setIfInBounds (Vector.replicate (32 : Nat) (0 : UInt8)) (0 : Nat) (1 : UInt8))))) else false) true then (bif eqb (bif true then (rootB (hOfs ([(PV.arr EK.u8 (32 : Nat) (Vector.setIfInBounds (Vector.replicate (32 : Nat) (0 : UInt8)) (0 : Nat) (1 : UInt8)))] : List PV))) else false) true then (bif eqb (bif true then (!(rootB (hOfs ([(PV.arr EK.u8 (32 : Nat) (Vector.setIfInBounds (Vector.replicate (32 : Nat) (0 : UInt8)) (0 : Nat) (1 : UInt8))), (PV.arr EK.u8 (32 : Nat) (Vector.setIfInBounds (Vector.replicate (32 : Nat) (0 : UInt8)) (0 : Nat) (1 : UInt8)))] : List PV)))) else false) true then (bif eqb (bif true then (rootB (hOfs ([(PV.arr EK.u8 (32 : Nat) (Vector.setIfInBounds (Vector.replicate (32 : Nat) (0 : UInt8)) (0 : Nat) (1 : UInt8))), (PV.arr EK.u8 (32 : Nat) (Vector.setIfInBounds (Vector.replicate (32 : Nat) (0 : UInt8)) (0 : Nat) (2 : UInt8))), (PV.arr EK.u8 (32 : Nat) (Vector.setIfInBounds (Vector.replicate (32 : Nat) (0 : UInt8)) (0 : Nat) (2 : UInt8)))] : List PV))) else false) true then (bif eqb (bif true then (decide ((((List.length (wayL (hOfs ([(PV.arr EK.u8 (32 : Nat) (Vector.setIfInBounds (Vector.replicate (32 : Nat) (0 : UInt8)) (0 : Nat) (1 : UInt8))), (PV.arr EK.u8 (32 : Nat) (Vector.setIfInBounds (Vector.replicate (32 : Nat) (0 : UInt8)) (0 : Nat) (2 : UInt8))), (PV.arr EK.u8 (32 : Nat) (Vector.setIfInBounds (Vector.replicate (32 : Nat) (0 : UInt8)) (0 : Nat) (1 : UInt8)))] : List PV)) (2 : Int))) : Nat) : Int) = (2 : Int))) else false) true then (if ((0 : Int) ≤ (0 : Int)) ∧ ((0 : Int) < (((List.length (wayL (hOfs ([(PV.arr EK.u8 (32 : Nat) (Vector.setIfInBounds (Vector.replicate (32 : Nat) (0 : UInt8)) (0 : Nat) (1 : UInt8))), (PV.arr EK.u8 (32 : Nat) (Vector.setIfInBounds (Vector.replicate (32 : Nat) (0 : UInt8)) (0 : Nat) (2 : UInt8))), (PV.arr EK.u8 (32 : Nat) (Vector.setIfInBounds (Vector.replicate (32 : Nat) (0 : UInt8)) (0 : Nat) (1 : UInt8)))] : List PV)) (2 : Int))) : Nat) : Int)) then
                if (TY.chk (TY.arr EK.u8 (32 : Nat)) (RC.get (RC.p (32 : Nat) (wayL (hOfs ([(PV.arr EK.u8 (32 : Nat) (Vector.setIfInBounds (Vector.replicate (32 : Nat) (0 : UInt8)) (0 : Nat) (1 : UInt8))), (PV.arr EK.u8 (32 : Nat) (Vector.setIfInBounds (Vector.replicate (32 : Nat) (0 : UInt8)) (0 : Nat) (2 : UInt8))), (PV.arr EK.u8 (32 : Nat) (Vector.setIfInBounds (Vector.replicate (32 : Nat) (0 : UInt8)) (0 : Nat) (1 : UInt8)))] : List PV)) (2 : Int))) ([(PE.i (0 : Nat))] : List PE))) = true then
                  bif eqb (bif true then (decide ((Vector.toList (PV.vecv EK.u8 (32 : Nat) (RC.get (RC.p (32 : Nat) (wayL (hOfs ([(PV.arr EK.u8 (32 : Nat) (Vector.setIfInBounds (Vector.replicate (32 : Nat) (0 : UInt8)) (0 : Nat) (1 : UInt8))), (PV.arr EK.u8 (32 : Nat) (Vector.setIfInBounds (Vector.replicate (32 : Nat) (0 : UInt8)) (0 : Nat) (2 : UInt8))), (PV.arr EK.u8 (32 : Nat) (Vector.setIfInBounds (Vector.replicate (32 : Nat) (0 : UInt8)) (0 : Nat) (1 : UInt8)))] : List PV)) (2 : Int))) ([(PE.i (0 : Nat))] : List PE)))) = (Vector.toList (Vector.setIfInBounds (Vector.replicate (32 : Nat) (0 : UInt8)) (0 : Nat) (1 : UInt8))))) else false) true then (bif eqb (bif true then (decide ((wayE (hOfs ([(PV.arr EK.u8 (32 : Nat) (Vector.setIfInBounds (Vector.replicate (32 : Nat) (0 : UInt8)) (0 : Nat) (1 : UInt8))), (PV.arr EK.u8 (32 : Nat) (Vector.setIfInBounds (Vector.replicate (32 : Nat) (0 : UInt8)) (0 : Nat) (2 : UInt8))), (PV.arr EK.u8 (32 : Nat) (Vector.setIfInBounds (Vector.replicate (32 : Nat) (0 : UInt8)) (0 : Nat) (1 : UInt8)))] : List PV)) (2 : Int)) = (0 : Int))) else false) true then (some (bif true then (decide ((wayE (hOfs ([(PV.arr EK.u8 (32 : Nat) (Vector.setIfInBounds (Vector.replicate (32 : Nat) (0 : UInt8)) (0 : Nat) (1 : UInt8))), (PV.arr EK.u8 (32 : Nat) (Vector.setIfInBounds (Vector.replicate (32 : Nat) (0 : UInt8)) (0 : Nat) (2 : UInt8))), (PV.arr EK.u8 (32 : Nat) (Vector.setIfInBounds (Vector.replicate (32 : Nat) (0 : UInt8)) (0 : Nat) (1 : UInt8)))] : List PV)) (3 : Int)) = (2 : Int))) else false))
                      else (some false))
                    else (some false)
                else none
              else none)
              else (some false))
            else (some false))
          else (some false))
        else (some false))
      else (some false))
    else (some false)) := by kernel_rfl
def shFold (p : List UInt8) : Nat → Vector UInt32 8
  | 0 => shaInit
  | n + 1 => shRound shaK (shFold p n) (fun j => p.getD (64 * n + j) 0)
theorem shFold_eq (p : List UInt8) : ∀ n, shaFold p n = shFold p n
  | 0 => rfl
  | n + 1 => by rw [shaFold, shaRound_eq, shFold_eq p n]; rfl
def hA : Vector UInt8 32 := Vector.setIfInBounds (Vector.replicate 32 0) 0 1
def hB : Vector UInt8 32 := Vector.setIfInBounds (Vector.replicate 32 0) 0 2
theorem sha_AB : shaSum (Vector.toList hA ++ Vector.toList hB) = #v[255, 85, 201, 121, 118, 168, 64, 180, 206, 217, 100, 237, 73, 227, 121, 69, 148, 186, 63, 103, 82, 56, 181, 253, 37, 210, 130, 182, 15, 112, 161, 148] := by rw [shaSum_eq, shFold_eq]; decide +kernel
theorem both_AB : bothV hA hB = #v[75, 182, 221, 127, 105, 94, 33, 178, 102, 83, 6, 170, 74, 246, 67, 178, 26, 174, 214, 78, 226, 139, 175, 152, 252, 11, 170, 199, 122, 110, 143, 255] := by rw [bothV_eq, sha_AB, shaSum_eq, shFold_eq]; decide +kernel
theorem sha_BB : shaSum (Vector.toList hB ++ Vector.toList hB) = #v[14, 1, 248, 217, 166, 114, 6, 16, 164, 74, 112, 194, 201, 27, 190, 117, 14, 198, 205, 103, 137, 45, 146, 177, 1, 99, 148, 171, 252, 56, 44, 249] := by rw [shaSum_eq, shFold_eq]; decide +kernel
theorem both_BB : bothV hB hB = #v[228, 141, 151, 240, 79, 24, 51, 165, 19, 12, 49, 3, 23, 236, 118, 13, 93, 33, 70, 98, 102, 188, 120, 255, 235, 81, 191, 75, 221, 83, 11, 48] := by rw [bothV_eq, sha_BB, shaSum_eq, shFold_eq]; decide +kernel
theorem both_ne : bothV hA hB ≠ bothV hB hB := by rw [both_AB, both_BB]; decide +kernel
theorem hA_ne : ¬ hA = hB := by decide +kernel
theorem works_B3 : rootB [hA, hB, hB] = true := by
  rw [rootB_eq, allSoundH_go (by decide), soundH_two, soundH_one, aboveH_two, aboveH_one, allSoundH_go (by decide), soundH_two, soundH_nil, aboveH_two, aboveH_nil, allSoundH_end (by decide), decide_eq_false hA_ne, decide_eq_false both_ne, decide_eq_true (by simp)]
  rfl
theorem works_B2 : rootB [hA, hA] = false := by
  rw [rootB_eq, allSoundH_go (by decide), soundH_two, decide_eq_true rfl]
  simp
theorem works_B1 : rootB [hA] = true := by
  rw [rootB_eq, allSoundH_end (by decide)]; simp
theorem works_V1 : rootV [hA] = hA := by
  rw [rootV_eq, allSoundH_end (by decide), topH_end (by decide), if_pos ⟨by simp, rfl⟩]; rfl
theorem works_B0 : rootB [] = false := by rw [rootB_eq]; simp
theorem works_W : wayGo [hA, hB, hA] 2 = [hA, bothV hA hB] := by
  rw [wayGo_go (by decide), aboveH_two, aboveH_one, wayGo_go (by decide), aboveH_two, aboveH_nil, wayGo_end (by decide)]
  rfl
theorem works_L : wayL [hA, hB, hA] 2 = hArrs [hA, bothV hA hB] := by rw [wayL_eq, if_pos (by decide), show Int.toNat 2 = 2 from rfl, works_W]
theorem works_E2 : wayE [hA, hB, hA] 2 = 0 := by rw [wayE_eq, if_pos (by decide)]
theorem works_E3 : wayE [hA, hB, hA] 3 = 2 := by rw [wayE_eq, if_neg (by decide)]
theorem law09_works_spec : law09_works = some true := by
  rw [law09_works]
  have e0 : hOfs ([] : List PV) = [] := rfl
  have e1 : hOfs [PV.arr .u8 32 (Vector.setIfInBounds (Vector.replicate 32 0) 0 1)] = [hA] := rfl
  have e2 : hOfs [PV.arr .u8 32 (Vector.setIfInBounds (Vector.replicate 32 0) 0 1), PV.arr .u8 32 (Vector.setIfInBounds (Vector.replicate 32 0) 0 1)] = [hA, hA] := rfl
  have e3 : hOfs [PV.arr .u8 32 (Vector.setIfInBounds (Vector.replicate 32 0) 0 1), PV.arr .u8 32 (Vector.setIfInBounds (Vector.replicate 32 0) 0 2), PV.arr .u8 32 (Vector.setIfInBounds (Vector.replicate 32 0) 0 2)] = [hA, hB, hB] := rfl
  have e4 : hOfs [PV.arr .u8 32 (Vector.setIfInBounds (Vector.replicate 32 0) 0 1), PV.arr .u8 32 (Vector.setIfInBounds (Vector.replicate 32 0) 0 2), PV.arr .u8 32 (Vector.setIfInBounds (Vector.replicate 32 0) 0 1)] = [hA, hB, hA] := rfl
  rw [e0, e1, e2, e3, e4, works_B0, works_V1, works_B1, works_B2, works_B3, works_L, works_E2, works_E3]
  rw [if_pos (by decide), if_pos (by rfl)]
  have e5 : PV.vecv .u8 32 (RC.get (RC.p 32 (hArrs [hA, bothV hA hB])) [PE.i 0]) = hA := rfl
  rw [e5]
  have e6 : Vector.toList hA = Vector.toList (Vector.setIfInBounds (Vector.replicate 32 (0 : UInt8)) 0 1) := rfl
  rw [decide_eq_true e6]
  rfl

end
end Go.Proofs.YtbdajagcinfeeaaDoor.M

namespace Go.Proofs.YtbdajagcinfeeaaDoor.M
open Go
noncomputable section
/-- the loop 2 of moneyer/moneyerlaw09.pair -/
def law09_pair_h2 : Nat → Int → (Vector UInt8 32) → (List UInt8) → Option (List UInt8)
  | 0, _, _, _ => none
  | k + 1, k_, b, out => bif decide (k_ < (32 : Int)) then (if ((0 : Int) ≤ k_) ∧ (k_ < (32 : Int)) then
        if (((List.length (out ++ ([(List.getD (Vector.toList b) (Int.toNat k_) (0 : UInt8))] : List UInt8))) * (1 : Nat)) ≤ (70368744177664 : Nat)) ∧ ((List.length (out ++ ([(List.getD (Vector.toList b) (Int.toNat k_) (0 : UInt8))] : List UInt8))) ≤ (70368744177664 : Nat)) then
          law09_pair_h2 k (w64 (k_ + (1 : Int))) b (out ++ ([(List.getD (Vector.toList b) (Int.toNat k_) (0 : UInt8))] : List UInt8))
        else none
      else none)
      else (some out)
theorem law09_pair_h2_q (k : Nat) (k_ : Int) (b : Vector UInt8 32) (out : List UInt8) : law09_pair_h2 (k + 1) k_ b out =
  (bif decide (k_ < (32 : Int)) then (if ((0 : Int) ≤ k_) ∧ (k_ < (32 : Int)) then
        if (((List.length (out ++ ([(List.getD (Vector.toList b) (Int.toNat k_) (0 : UInt8))] : List UInt8))) * (1 : Nat)) ≤ (70368744177664 : Nat)) ∧ ((List.length (out ++ ([(List.getD (Vector.toList b) (Int.toNat k_) (0 : UInt8))] : List UInt8))) ≤ (70368744177664 : Nat)) then
          law09_pair_h2 k (w64 (k_ + (1 : Int))) b (out ++ ([(List.getD (Vector.toList b) (Int.toNat k_) (0 : UInt8))] : List UInt8))
        else none
      else none)
      else (some out)) := by kernel_rfl
/-- the loop 0 of moneyer/moneyerlaw09.pair -/
def law09_pair_h0 : Nat → Int → (Vector UInt8 32) → (Vector UInt8 32) → (List UInt8) → Option (List UInt8)
  | 0, _, _, _, _ => none
  | k + 1, k_, a, b, out => bif decide (k_ < (32 : Int)) then (if ((0 : Int) ≤ k_) ∧ (k_ < (32 : Int)) then
        if (((List.length (out ++ ([(List.getD (Vector.toList a) (Int.toNat k_) (0 : UInt8))] : List UInt8))) * (1 : Nat)) ≤ (70368744177664 : Nat)) ∧ ((List.length (out ++ ([(List.getD (Vector.toList a) (Int.toNat k_) (0 : UInt8))] : List UInt8))) ≤ (70368744177664 : Nat)) then
          law09_pair_h0 k (w64 (k_ + (1 : Int))) a b (out ++ ([(List.getD (Vector.toList a) (Int.toNat k_) (0 : UInt8))] : List UInt8))
        else none
      else none)
      else (law09_pair_h2 k (0 : Int) b out)
theorem law09_pair_h0_q (k : Nat) (k_ : Int) (a : Vector UInt8 32) (b : Vector UInt8 32) (out : List UInt8) : law09_pair_h0 (k + 1) k_ a b out =
  (bif decide (k_ < (32 : Int)) then (if ((0 : Int) ≤ k_) ∧ (k_ < (32 : Int)) then
        if (((List.length (out ++ ([(List.getD (Vector.toList a) (Int.toNat k_) (0 : UInt8))] : List UInt8))) * (1 : Nat)) ≤ (70368744177664 : Nat)) ∧ ((List.length (out ++ ([(List.getD (Vector.toList a) (Int.toNat k_) (0 : UInt8))] : List UInt8))) ≤ (70368744177664 : Nat)) then
          law09_pair_h0 k (w64 (k_ + (1 : Int))) a b (out ++ ([(List.getD (Vector.toList a) (Int.toNat k_) (0 : UInt8))] : List UInt8))
        else none
      else none)
      else (law09_pair_h2 k (0 : Int) b out)) := by kernel_rfl
/-- moneyer/moneyerlaw09.pair -/
def law09_pair (k : Nat) (l : List PV) (i : Int) : Option (List UInt8) :=
  if (((0 : Int) ≤ i) ∧ (i < (((List.length l) : Nat) : Int))) ∧ ((TY.chk (TY.arr EK.u8 (32 : Nat)) (List.getD l (Int.toNat i) PV.nilp)) = true) then
    bif decide ((w64 (i + (1 : Int))) < (((List.length l) : Nat) : Int)) then (if (((0 : Int) ≤ (w64 (i + (1 : Int)))) ∧ ((w64 (i + (1 : Int))) < (((List.length l) : Nat) : Int))) ∧ ((TY.chk (TY.arr EK.u8 (32 : Nat)) (List.getD l (Int.toNat (w64 (i + (1 : Int)))) PV.nilp)) = true) then
        law09_pair_h0 k (0 : Int) (PV.vecv EK.u8 (32 : Nat) (List.getD l (Int.toNat i) PV.nilp)) (PV.vecv EK.u8 (32 : Nat) (List.getD l (Int.toNat (w64 (i + (1 : Int)))) PV.nilp)) ([] : List UInt8)
      else none)
      else (law09_pair_h0 k (0 : Int) (PV.vecv EK.u8 (32 : Nat) (List.getD l (Int.toNat i) PV.nilp)) (PV.vecv EK.u8 (32 : Nat) (List.getD l (Int.toNat i) PV.nilp)) ([] : List UInt8))
  else none
theorem law09_pair_q (k : Nat) (l : List PV) (i : Int) : law09_pair k l i = (if (((0 : Int) ≤ i) ∧ (i < (((List.length l) : Nat) : Int))) ∧ ((TY.chk (TY.arr EK.u8 (32 : Nat)) (List.getD l (Int.toNat i) PV.nilp)) = true) then
    bif decide ((w64 (i + (1 : Int))) < (((List.length l) : Nat) : Int)) then (if (((0 : Int) ≤ (w64 (i + (1 : Int)))) ∧ ((w64 (i + (1 : Int))) < (((List.length l) : Nat) : Int))) ∧ ((TY.chk (TY.arr EK.u8 (32 : Nat)) (List.getD l (Int.toNat (w64 (i + (1 : Int)))) PV.nilp)) = true) then
        law09_pair_h0 k (0 : Int) (PV.vecv EK.u8 (32 : Nat) (List.getD l (Int.toNat i) PV.nilp)) (PV.vecv EK.u8 (32 : Nat) (List.getD l (Int.toNat (w64 (i + (1 : Int)))) PV.nilp)) ([] : List UInt8)
      else none)
      else (law09_pair_h0 k (0 : Int) (PV.vecv EK.u8 (32 : Nat) (List.getD l (Int.toNat i) PV.nilp)) (PV.vecv EK.u8 (32 : Nat) (List.getD l (Int.toNat i) PV.nilp)) ([] : List UInt8))
  else none) := by kernel_rfl
theorem law09_pair_2 (b : Vector UInt8 32) (pre : List UInt8) (ho : pre.length ≤ 64) : Ev (fun k => law09_pair_h2 k (0 : Int) b pre) (pre ++ Vector.toList b) := by
  refine Ev.inv (H := fun k i s => law09_pair_h2 k i b s) (n := 32) (fun i s => s = pre ++ (Vector.toList b).take i) ?_ ?_ 32 0 pre (by omega) (by simp)
  · rintro i s hi rfl h
    refine Ev.step (fun k => ?_) (h _ rfl)
    have ht := take_getD (l := Vector.toList b) (i := i) 0 (by simp; omega)
    have hl : (pre ++ (Vector.toList b).take i).length ≤ 96 := by simp; omega
    rw [law09_pair_h2, bif_pos (by omega), if_pos (by omega), if_pos (by rw [List.length_append]; simp only [List.length_cons, List.length_nil]; omega), w64_id (by omega) (by omega), ← ht, List.append_assoc]
    rfl
  · rintro s rfl
    refine Ev.done fun k => ?_
    rw [law09_pair_h2, bif_neg (by omega), List.take_of_length_le (by simp)]
theorem law09_pair_0 (a b : Vector UInt8 32) : Ev (fun k => law09_pair_h0 k (0 : Int) a b []) (Vector.toList a ++ Vector.toList b) := by
  refine Ev.inv (H := fun k i s => law09_pair_h0 k i a b s) (n := 32) (fun i s => s = (Vector.toList a).take i) ?_ ?_ 32 0 [] (by omega) (by simp)
  · rintro i s hi rfl h
    refine Ev.step (fun k => ?_) (h _ rfl)
    have ht := take_getD (l := Vector.toList a) (i := i) 0 (by simp; omega)
    have hl : ((Vector.toList a).take i).length ≤ 96 := by simp; omega
    rw [law09_pair_h0, bif_pos (by omega), if_pos (by omega), if_pos (by rw [List.length_append]; simp only [List.length_cons, List.length_nil]; omega), w64_id (by omega) (by omega), ← ht]
    rfl
  · rintro s rfl
    refine Ev.step (fun k => ?_) (law09_pair_2 b _ (by simp))
    rw [law09_pair_h0, bif_neg (by omega), List.take_of_length_le (by simp)]
theorem law09_pair_spec (l : List PV) (i : Int) (hp : hashesB l = true ∧ 0 ≤ i ∧ i < l.length) : Ev (fun k => law09_pair k l i) (pairS l i) := by
  obtain ⟨hp, h0, h1⟩ := hp
  have hlen := hashesB_len hp
  obtain ⟨n, rfl⟩ : ∃ n : Nat, i = n := ⟨i.toNat, by omega⟩
  have c1 := hashesB_at hp (i := n) (by omega)
  have w1 : w64 ((n : Int) + 1) = ((n + 1 : Nat) : Int) := by rw [w64_id (by omega) (by omega)]; omega
  rw [pairS_eq]
  by_cases h2 : n + 1 < l.length
  · have c2 := hashesB_at hp h2
    have e : nxt n l.length = n + 1 := by unfold nxt; rw [if_pos h2]
    rw [show Int.toNat (n : Int) = n from rfl, e]
    refine Ev.same (fun k => ?_) (law09_pair_0 _ _)
    rw [law09_pair, if_pos ⟨⟨by omega, by omega⟩, c1⟩, w1, bif_pos (by omega), if_pos ⟨⟨by omega, by omega⟩, c2⟩]
    rfl
  · have e : nxt n l.length = n := by unfold nxt; rw [if_neg h2]
    rw [show Int.toNat (n : Int) = n from rfl, e]
    refine Ev.same (fun k => ?_) (law09_pair_0 _ _)
    rw [law09_pair, if_pos ⟨⟨by omega, by omega⟩, c1⟩, w1, bif_neg (by omega)]
    rfl

end
end Go.Proofs.YtbdajagcinfeeaaDoor.M

namespace Go.Proofs.YtbdajagcinfeeaaDoor.M
open Go
noncomputable section
mutual
/-- the loop 0 of moneyer/moneyerlaw09.collides -/
def law09_collides_h0 : Nat → (List PV) → (List PV) → Option (Bool)
  | 0, _, _ => none
  | k + 1, a, b => bif eqb (decide ((1 : Int) < (((List.length a) : Nat) : Int))) true then (bif bif true then (decide ((((List.length a) : Nat) : Int) = (((List.length b) : Nat) : Int))) else false then (law09_collides_h2 k a b (0 : Int) ([] : List PV) ([] : List PV))
        else (some false))
      else (some false)
/-- the loop 2 of moneyer/moneyerlaw09.collides -/
def law09_collides_h2 : Nat → (List PV) → (List PV) → Int → (List PV) → (List PV) → Option (Bool)
  | 0, _, _, _, _, _ => none
  | k + 1, a, b, i, c, d => bif decide (i < (((List.length a) : Nat) : Int)) then (if ((hashesB a) = true) ∧ (((0 : Int) ≤ i) ∧ (i < (((List.length a) : Nat) : Int))) then
        if ((hashesB b) = true) ∧ (((0 : Int) ≤ i) ∧ (i < (((List.length b) : Nat) : Int))) then
          if (List.length (pairS a i)) ≤ (1099511627776 : Nat) then
            if (List.length (pairS b i)) ≤ (1099511627776 : Nat) then
              bif eqb (decide ((Vector.toList (shaSum (Vector.toList (shaSum (pairS a i))))) = (Vector.toList (shaSum (Vector.toList (shaSum (pairS b i))))))) true then (if (List.length (pairS a i)) ≤ (1152921504606846976 : Nat) then
                  bif bif true then (!(decide ((pairS a i) = (pairS b i)))) else false then (some true)
                    else (if (((List.length (c ++ ([(PV.arr EK.u8 (32 : Nat) (shaSum (Vector.toList (shaSum (pairS a i)))))] : List PV))) * (32 : Nat)) ≤ (70368744177664 : Nat)) ∧ ((List.length (c ++ ([(PV.arr EK.u8 (32 : Nat) (shaSum (Vector.toList (shaSum (pairS a i)))))] : List PV))) ≤ (70368744177664 : Nat)) then
                      if (((List.length (d ++ ([(PV.arr EK.u8 (32 : Nat) (shaSum (Vector.toList (shaSum (pairS b i)))))] : List PV))) * (32 : Nat)) ≤ (70368744177664 : Nat)) ∧ ((List.length (d ++ ([(PV.arr EK.u8 (32 : Nat) (shaSum (Vector.toList (shaSum (pairS b i)))))] : List PV))) ≤ (70368744177664 : Nat)) then
                        law09_collides_h2 k a b (w64 (i + (2 : Int))) (c ++ ([(PV.arr EK.u8 (32 : Nat) (shaSum (Vector.toList (shaSum (pairS a i)))))] : List PV)) (d ++ ([(PV.arr EK.u8 (32 : Nat) (shaSum (Vector.toList (shaSum (pairS b i)))))] : List PV))
                      else none
                    else none)
                else none)
                else (if (((List.length (c ++ ([(PV.arr EK.u8 (32 : Nat) (shaSum (Vector.toList (shaSum (pairS a i)))))] : List PV))) * (32 : Nat)) ≤ (70368744177664 : Nat)) ∧ ((List.length (c ++ ([(PV.arr EK.u8 (32 : Nat) (shaSum (Vector.toList (shaSum (pairS a i)))))] : List PV))) ≤ (70368744177664 : Nat)) then
                  if (((List.length (d ++ ([(PV.arr EK.u8 (32 : Nat) (shaSum (Vector.toList (shaSum (pairS b i)))))] : List PV))) * (32 : Nat)) ≤ (70368744177664 : Nat)) ∧ ((List.length (d ++ ([(PV.arr EK.u8 (32 : Nat) (shaSum (Vector.toList (shaSum (pairS b i)))))] : List PV))) ≤ (70368744177664 : Nat)) then
                    law09_collides_h2 k a b (w64 (i + (2 : Int))) (c ++ ([(PV.arr EK.u8 (32 : Nat) (shaSum (Vector.toList (shaSum (pairS a i)))))] : List PV)) (d ++ ([(PV.arr EK.u8 (32 : Nat) (shaSum (Vector.toList (shaSum (pairS b i)))))] : List PV))
                  else none
                else none)
            else none
          else none
        else none
      else none)
      else (law09_collides_h0 k c d)
end
theorem law09_collides_h0_q (k : Nat) (a : List PV) (b : List PV) : law09_collides_h0 (k + 1) a b =
  (bif eqb (decide ((1 : Int) < (((List.length a) : Nat) : Int))) true then (bif bif true then (decide ((((List.length a) : Nat) : Int) = (((List.length b) : Nat) : Int))) else false then (law09_collides_h2 k a b (0 : Int) ([] : List PV) ([] : List PV))
        else (some false))
      else (some false)) := by kernel_rfl
theorem law09_collides_h2_q (k : Nat) (a : List PV) (b : List PV) (i : Int) (c : List PV) (d : List PV) : law09_collides_h2 (k + 1) a b i c d =
  (bif decide (i < (((List.length a) : Nat) : Int)) then (if ((hashesB a) = true) ∧ (((0 : Int) ≤ i) ∧ (i < (((List.length a) : Nat) : Int))) then
        if ((hashesB b) = true) ∧ (((0 : Int) ≤ i) ∧ (i < (((List.length b) : Nat) : Int))) then
          if (List.length (pairS a i)) ≤ (1099511627776 : Nat) then
            if (List.length (pairS b i)) ≤ (1099511627776 : Nat) then
              bif eqb (decide ((Vector.toList (shaSum (Vector.toList (shaSum (pairS a i))))) = (Vector.toList (shaSum (Vector.toList (shaSum (pairS b i))))))) true then (if (List.length (pairS a i)) ≤ (1152921504606846976 : Nat) then
                  bif bif true then (!(decide ((pairS a i) = (pairS b i)))) else false then (some true)
                    else (if (((List.length (c ++ ([(PV.arr EK.u8 (32 : Nat) (shaSum (Vector.toList (shaSum (pairS a i)))))] : List PV))) * (32 : Nat)) ≤ (70368744177664 : Nat)) ∧ ((List.length (c ++ ([(PV.arr EK.u8 (32 : Nat) (shaSum (Vector.toList (shaSum (pairS a i)))))] : List PV))) ≤ (70368744177664 : Nat)) then
                      if (((List.length (d ++ ([(PV.arr EK.u8 (32 : Nat) (shaSum (Vector.toList (shaSum (pairS b i)))))] : List PV))) * (32 : Nat)) ≤ (70368744177664 : Nat)) ∧ ((List.length (d ++ ([(PV.arr EK.u8 (32 : Nat) (shaSum (Vector.toList (shaSum (pairS b i)))))] : List PV))) ≤ (70368744177664 : Nat)) then
                        law09_collides_h2 k a b (w64 (i + (2 : Int))) (c ++ ([(PV.arr EK.u8 (32 : Nat) (shaSum (Vector.toList (shaSum (pairS a i)))))] : List PV)) (d ++ ([(PV.arr EK.u8 (32 : Nat) (shaSum (Vector.toList (shaSum (pairS b i)))))] : List PV))
                      else none
                    else none)
                else none)
                else (if (((List.length (c ++ ([(PV.arr EK.u8 (32 : Nat) (shaSum (Vector.toList (shaSum (pairS a i)))))] : List PV))) * (32 : Nat)) ≤ (70368744177664 : Nat)) ∧ ((List.length (c ++ ([(PV.arr EK.u8 (32 : Nat) (shaSum (Vector.toList (shaSum (pairS a i)))))] : List PV))) ≤ (70368744177664 : Nat)) then
                  if (((List.length (d ++ ([(PV.arr EK.u8 (32 : Nat) (shaSum (Vector.toList (shaSum (pairS b i)))))] : List PV))) * (32 : Nat)) ≤ (70368744177664 : Nat)) ∧ ((List.length (d ++ ([(PV.arr EK.u8 (32 : Nat) (shaSum (Vector.toList (shaSum (pairS b i)))))] : List PV))) ≤ (70368744177664 : Nat)) then
                    law09_collides_h2 k a b (w64 (i + (2 : Int))) (c ++ ([(PV.arr EK.u8 (32 : Nat) (shaSum (Vector.toList (shaSum (pairS a i)))))] : List PV)) (d ++ ([(PV.arr EK.u8 (32 : Nat) (shaSum (Vector.toList (shaSum (pairS b i)))))] : List PV))
                  else none
                else none)
            else none
          else none
        else none
      else none)
      else (law09_collides_h0 k c d)) := by kernel_rfl
/-- moneyer/moneyerlaw09.collides -/
def law09_collides (k : Nat) (a : List PV) (b : List PV) : Option (Bool) :=
  law09_collides_h0 k a b
theorem law09_collides_q (k : Nat) (a : List PV) (b : List PV) : law09_collides k a b = (law09_collides_h0 k a b) := by kernel_rfl
theorem coll_round (k : Nat) (a b : List PV) (ha : hashesB a = true) (hb : hashesB b = true) (hl : a.length = b.length) (i : Nat) (hi : i < a.length) (c d : List (Vector UInt8 32)) (hc : c.length ≤ i) (hd : d.length ≤ i) :
    law09_collides_h2 (k + 1) a b (i : Int) (hArrs c) (hArrs d) =
      if (decide (bothV (hOf (a.getD i .nilp)) (hOf (a.getD (nxt i a.length) .nilp)) = bothV (hOf (b.getD i .nilp)) (hOf (b.getD (nxt i b.length) .nilp))) && !decide (Vector.toList (hOf (a.getD i .nilp)) ++ Vector.toList (hOf (a.getD (nxt i a.length) .nilp)) = Vector.toList (hOf (b.getD i .nilp)) ++ Vector.toList (hOf (b.getD (nxt i b.length) .nilp)))) = true then some true
      else law09_collides_h2 k a b ((i : Int) + 2) (hArrs (c ++ [bothV (hOf (a.getD i .nilp)) (hOf (a.getD (nxt i a.length) .nilp))])) (hArrs (d ++ [bothV (hOf (b.getD i .nilp)) (hOf (b.getD (nxt i b.length) .nilp))])) := by
  have la := hashesB_len ha
  have hca := hArrs_len c
  have hda := hArrs_len d
  have w2 : w64 ((i : Int) + 2) = (i : Int) + 2 := w64_id (by omega) (by omega)
  have pa : pairS a (i : Int) = Vector.toList (hOf (a.getD i .nilp)) ++ Vector.toList (hOf (a.getD (nxt i a.length) .nilp)) := pairS_eq a i
  have pb : pairS b (i : Int) = Vector.toList (hOf (b.getD i .nilp)) ++ Vector.toList (hOf (b.getD (nxt i b.length) .nilp)) := pairS_eq b i
  have lpa := pairS_len a (i : Int)
  have lpb := pairS_len b (i : Int)
  have hap : ∀ (c : List (Vector UInt8 32)) (y : Vector UInt8 32), hArrs (c ++ [y]) = hArrs c ++ [PV.arr .u8 32 y] := fun c y => hArrs_app c [y]
  rw [law09_collides_h2, bif_pos (by omega), if_pos ⟨ha, by omega, by omega⟩, if_pos ⟨hb, by omega, by omega⟩, if_pos (by omega), if_pos (by omega), w2]
  rw [pa, pb] at *
  rw [← bothV_eq, ← bothV_eq, hap, hap]
  generalize hOf (a.getD i .nilp) = x1 at *
  generalize hOf (a.getD (nxt i a.length) .nilp) = x2 at *
  generalize hOf (b.getD i .nilp) = y1 at *
  generalize hOf (b.getD (nxt i b.length) .nilp) = y2 at *
  rw [vdec]
  by_cases e : bothV x1 x2 = bothV y1 y2
  · rw [decide_eq_true e, show eqb true true = true from rfl, cond_true, if_pos (by omega)]
    by_cases e2 : Vector.toList x1 ++ Vector.toList x2 = Vector.toList y1 ++ Vector.toList y2
    · rw [decide_eq_true e2, Bool.not_true, cond_true, cond_false, if_pos (by rw [List.length_append, hca]; simp only [List.length_cons, List.length_nil]; omega), if_pos (by rw [List.length_append, hda]; simp only [List.length_cons, List.length_nil]; omega), if_neg (by simp)]
    · rw [decide_eq_false e2]
      rfl
  · rw [decide_eq_false e, show eqb false true = false from rfl, cond_false, if_pos (by rw [List.length_append, hca]; simp only [List.length_cons, List.length_nil]; omega), if_pos (by rw [List.length_append, hda]; simp only [List.length_cons, List.length_nil]; omega), Bool.false_and, if_neg (by simp)]
theorem coll_row {r : Bool} (a b : List PV) (ha : hashesB a = true) (hb : hashesB b = true) (hl : a.length = b.length) : ∀ (m i : Nat) (c d : List (Vector UInt8 32)), a.length ≤ i + m → c.length ≤ i → d.length ≤ i →
    (hitH ((hOfs a).drop i) ((hOfs b).drop i) = true → r = true) →
    (hitH ((hOfs a).drop i) ((hOfs b).drop i) = false → Ev (fun k => law09_collides_h0 k (hArrs (c ++ aboveH ((hOfs a).drop i))) (hArrs (d ++ aboveH ((hOfs b).drop i)))) r) →
    Ev (fun k => law09_collides_h2 k a b (i : Int) (hArrs c) (hArrs d)) r
  | m, i, c, d, hm, hc, hd, h1, h2 => by
    by_cases h0 : a.length ≤ i
    · rw [hdrop0 a i h0, hdrop0 b i (by omega), hitH_nil, aboveH_nil, List.append_nil, List.append_nil] at h2
      refine Ev.step (fun k => ?_) (h2 rfl)
      rw [law09_collides_h2, bif_neg (by omega)]
    · cases m with
      | zero => omega
      | succ m =>
        have e2 : ((i + 2 : Nat) : Int) = (i : Int) + 2 := by omega
        have go : ∀ x1 x2 y1 y2, (decide (bothV x1 x2 = bothV y1 y2) && !decide (Vector.toList x1 ++ Vector.toList x2 = Vector.toList y1 ++ Vector.toList y2)) = true ∨ (decide (bothV x1 x2 = bothV y1 y2) && !decide (Vector.toList x1 ++ Vector.toList x2 = Vector.toList y1 ++ Vector.toList y2)) = false := fun x1 x2 y1 y2 => by
          cases (decide (bothV x1 x2 = bothV y1 y2) && !decide (Vector.toList x1 ++ Vector.toList x2 = Vector.toList y1 ++ Vector.toList y2)) <;> simp
        by_cases g : i + 1 < a.length
        · have na : nxt i a.length = i + 1 := by unfold nxt; rw [if_pos g]
          have nb : nxt i b.length = i + 1 := by unfold nxt; rw [if_pos (by omega)]
          rw [hdrop2 a i g, hdrop2 b i (by omega), hitH_two] at h1 h2
          rw [aboveH_two, aboveH_two] at h2
          have rd := fun k => coll_round k a b ha hb hl i (by omega) c d hc hd
          rw [na, nb] at rd
          rcases go (hOf (a.getD i .nilp)) (hOf (a.getD (i + 1) .nilp)) (hOf (b.getD i .nilp)) (hOf (b.getD (i + 1) .nilp)) with q | q
          · rw [q] at h1
            have hr := h1 (Bool.true_or _)
            subst hr
            refine Ev.done fun k => ?_
            rw [rd k, if_pos q]
          · rw [q, Bool.false_or] at h1 h2
            have := coll_row (r := r) a b ha hb hl m (i + 2) (c ++ [bothV (hOf (a.getD i .nilp)) (hOf (a.getD (i + 1) .nilp))]) (d ++ [bothV (hOf (b.getD i .nilp)) (hOf (b.getD (i + 1) .nilp))]) (by omega) (by simp; omega) (by simp; omega) h1
              (by rw [List.append_assoc, List.append_assoc]; exact h2)
            rw [e2] at this
            refine Ev.step (fun k => ?_) this
            rw [rd k, if_neg (by rw [q]; simp)]
        · have na : nxt i a.length = i := by unfold nxt; rw [if_neg g]
          have nb : nxt i b.length = i := by unfold nxt; rw [if_neg (by omega)]
          rw [hdrop1 a i (by omega), hdrop1 b i (by omega), hitH_one] at h1 h2
          rw [aboveH_one, aboveH_one] at h2
          have rd := fun k => coll_round k a b ha hb hl i (by omega) c d hc hd
          rw [na, nb] at rd
          rcases go (hOf (a.getD i .nilp)) (hOf (a.getD i .nilp)) (hOf (b.getD i .nilp)) (hOf (b.getD i .nilp)) with q | q
          · have hr := h1 q
            subst hr
            refine Ev.done fun k => ?_
            rw [rd k, if_pos q]
          · have := coll_row (r := r) a b ha hb hl m (i + 2) (c ++ [bothV (hOf (a.getD i .nilp)) (hOf (a.getD i .nilp))]) (d ++ [bothV (hOf (b.getD i .nilp)) (hOf (b.getD i .nilp))]) (by omega) (by simp; omega) (by simp; omega)
              (by rw [hdrop0 a (i + 2) (by omega), hdrop0 b (i + 2) (by omega), hitH_nil]; intro h; cases h)
              (by rw [hdrop0 a (i + 2) (by omega), hdrop0 b (i + 2) (by omega), hitH_nil, aboveH_nil, List.append_nil, List.append_nil]; intro _; exact h2 q)
            rw [e2] at this
            refine Ev.step (fun k => ?_) this
            rw [rd k, if_neg (by rw [q]; simp)]
theorem coll_gen : ∀ (m : Nat) (a b : List (Vector UInt8 32)), a.length ≤ m → a.length = b.length → a.length ≤ 1099511627776 → Ev (fun k => law09_collides_h0 k (hArrs a) (hArrs b)) (collH a b)
  | m, a, b, hm, hl, hb => by
    have la := hArrs_len a
    have lb := hArrs_len b
    have aa := aboveH_len a
    have ab := aboveH_len b
    by_cases hgo : 1 < a.length
    · cases m with
      | zero => omega
      | succ m =>
        have ih := coll_gen m (aboveH a) (aboveH b) (by omega) (by omega) (by omega)
        rw [collH_go hgo]
        have := coll_row (r := hitH a b || collH (aboveH a) (aboveH b)) (hArrs a) (hArrs b) (hashesB_arrs hb) (hashesB_arrs (by omega)) (by omega) a.length 0 [] [] (by omega) (by simp) (by simp)
          (by rw [hOfs_arrs, hOfs_arrs, List.drop_zero, List.drop_zero]; intro h; rw [h]; rfl)
          (by rw [hOfs_arrs, hOfs_arrs, List.drop_zero, List.drop_zero]; intro h; rw [h]; exact ih)
        refine Ev.step (fun k => ?_) this
        rw [law09_collides_h0, decide_eq_true (p := (1 : Int) < _) (by omega), decide_eq_true (p := (((List.length (hArrs a)) : Nat) : Int) = _) (by omega)]
        rfl
    · refine Ev.done fun k => ?_
      rw [law09_collides_h0, decide_eq_false (p := (1 : Int) < _) (by omega), collH_end hgo]
      rfl
theorem law09_collides_spec (a b : List PV) (hp : hashesB a = true ∧ hashesB b = true ∧ a.length = b.length) : Ev (fun k => law09_collides k a b) (collS (hOfs a) (hOfs b)) := by
  obtain ⟨ha, hb, hl⟩ := hp
  have la := hOfs_len a
  have lb := hOfs_len b
  have := hashesB_len ha
  rw [collS_eq]
  have := coll_gen (hOfs a).length (hOfs a) (hOfs b) (Nat.le_refl _) (by omega) (by omega)
  rw [hArrs_ofs ha, hArrs_ofs hb] at this
  exact this

end
end Go.Proofs.YtbdajagcinfeeaaDoor.M

namespace Go.Proofs.YtbdajagcinfeeaaDoor.M
open Go
noncomputable section
set_option maxRecDepth 100000
set_option maxHeartbeats 0
noncomputable def law09_works_T : Tbl := [(11, [], merkle_Root_c), (14, [], merkle_Way_c)]
noncomputable def law09_works_C : CfgW := mkC Tryd.prog theG law09_works_T 95 0 false
def law09_works_lv : Nat → List Nat := fun i => []
noncomputable abbrev law09_works_b : Code := Tryd.f12.body.getD .skip
noncomputable abbrev law09_works_r : List ResultVar := Tryd.f12.results.toList
def law09_works_hs : List Nat := []

def law09_works_enc (r : Bool) : CallOut := ⟨.pv (.sc .b r), [], true, []⟩
theorem law09_works_e  (Q : CallOut → Prop) : evalFnP law09_works_C law09_works_lv law09_works_r law09_works_hs law09_works_b [] [] Q =
    (((hashesB ([] : List PV)) = true) ∧ (((hashesB ([(PV.arr EK.u8 (32 : Nat) (Vector.setIfInBounds (Vector.replicate (32 : Nat) (0 : UInt8)) (0 : Nat) (1 : UInt8)))] : List PV)) = true) ∧ (((hashesB ([(PV.arr EK.u8 (32 : Nat) (Vector.setIfInBounds (Vector.replicate (32 : Nat) (0 : UInt8)) (0 : Nat) (1 : UInt8))), (PV.arr EK.u8 (32 : Nat) (Vector.setIfInBounds (Vector.replicate (32 : Nat) (0 : UInt8)) (0 : Nat) (1 : UInt8)))] : List PV)) = true) ∧ (((hashesB ([(PV.arr EK.u8 (32 : Nat) (Vector.setIfInBounds (Vector.replicate (32 : Nat) (0 : UInt8)) (0 : Nat) (1 : UInt8))), (PV.arr EK.u8 (32 : Nat) (Vector.setIfInBounds (Vector.replicate (32 : Nat) (0 : UInt8)) (0 : Nat) (2 : UInt8))), (PV.arr EK.u8 (32 : Nat) (Vector.setIfInBounds (Vector.replicate (32 : Nat) (0 : UInt8)) (0 : Nat) (2 : UInt8)))] : List PV)) = true) ∧ (((hashesB ([(PV.arr EK.u8 (32 : Nat) (Vector.setIfInBounds (Vector.replicate (32 : Nat) (0 : UInt8)) (0 : Nat) (1 : UInt8))), (PV.arr EK.u8 (32 : Nat) (Vector.setIfInBounds (Vector.replicate (32 : Nat) (0 : UInt8)) (0 : Nat) (2 : UInt8))), (PV.arr EK.u8 (32 : Nat) (Vector.setIfInBounds (Vector.replicate (32 : Nat) (0 : UInt8)) (0 : Nat) (1 : UInt8)))] : List PV)) = true) ∧ (((hashesB ([(PV.arr EK.u8 (32 : Nat) (Vector.setIfInBounds (Vector.replicate (32 : Nat) (0 : UInt8)) (0 : Nat) (1 : UInt8))), (PV.arr EK.u8 (32 : Nat) (Vector.setIfInBounds (Vector.replicate (32 : Nat) (0 : UInt8)) (0 : Nat) (2 : UInt8))), (PV.arr EK.u8 (32 : Nat) (Vector.setIfInBounds (Vector.replicate (32 : Nat) (0 : UInt8)) (0 : Nat) (1 : UInt8)))] : List PV)) = true) ∧ (condP (eqb (!(rootB (hOfs ([] : List PV)))) true) (condP (eqb (bif true then (decide ((Vector.toList (rootV (hOfs ([(PV.arr EK.u8 (32 : Nat) (Vector.setIfInBounds (Vector.replicate (32 : Nat) (0 : UInt8)) (0 : Nat) (1 : UInt8)))] : List PV)))) = (Vector.toList (Vector.setIfInBounds (Vector.replicate (32 : Nat) (0 : UInt8)) (0 : Nat) (1 : UInt8))))) else false) true) (condP (eqb (bif true then (rootB (hOfs ([(PV.arr EK.u8 (32 : Nat) (Vector.setIfInBounds (Vector.replicate (32 : Nat) (0 : UInt8)) (0 : Nat) (1 : UInt8)))] : List PV))) else false) true) (condP (eqb (bif true then (!(rootB (hOfs ([(PV.arr EK.u8 (32 : Nat) (Vector.setIfInBounds (Vector.replicate (32 : Nat) (0 : UInt8)) (0 : Nat) (1 : UInt8))), (PV.arr EK.u8 (32 : Nat) (Vector.setIfInBounds (Vector.replicate (32 : Nat) (0 : UInt8)) (0 : Nat) (1 : UInt8)))] : List PV)))) else false) true) (condP (eqb (bif true then (rootB (hOfs ([(PV.arr EK.u8 (32 : Nat) (Vector.setIfInBounds (Vector.replicate (32 : Nat) (0 : UInt8)) (0 : Nat) (1 : UInt8))), (PV.arr EK.u8 (32 : Nat) (Vector.setIfInBounds (Vector.replicate (32 : Nat) (0 : UInt8)) (0 : Nat) (2 : UInt8))), (PV.arr EK.u8 (32 : Nat) (Vector.setIfInBounds (Vector.replicate (32 : Nat) (0 : UInt8)) (0 : Nat) (2 : UInt8)))] : List PV))) else false) true) (condP (eqb (bif true then (decide ((((List.length (wayL (hOfs ([(PV.arr EK.u8 (32 : Nat) (Vector.setIfInBounds (Vector.replicate (32 : Nat) (0 : UInt8)) (0 : Nat) (1 : UInt8))), (PV.arr EK.u8 (32 : Nat) (Vector.setIfInBounds (Vector.replicate (32 : Nat) (0 : UInt8)) (0 : Nat) (2 : UInt8))), (PV.arr EK.u8 (32 : Nat) (Vector.setIfInBounds (Vector.replicate (32 : Nat) (0 : UInt8)) (0 : Nat) (1 : UInt8)))] : List PV)) (2 : Int))) : Nat) : Int) = (2 : Int))) else false) true) ((((0 : Int) ≤ (0 : Int)) ∧ ((0 : Int) < (((List.length (wayL (hOfs ([(PV.arr EK.u8 (32 : Nat) (Vector.setIfInBounds (Vector.replicate (32 : Nat) (0 : UInt8)) (0 : Nat) (1 : UInt8))), (PV.arr EK.u8 (32 : Nat) (Vector.setIfInBounds (Vector.replicate (32 : Nat) (0 : UInt8)) (0 : Nat) (2 : UInt8))), (PV.arr EK.u8 (32 : Nat) (Vector.setIfInBounds (Vector.replicate (32 : Nat) (0 : UInt8)) (0 : Nat) (1 : UInt8)))] : List PV)) (2 : Int))) : Nat) : Int))) ∧ (((TY.chk (TY.arr EK.u8 (32 : Nat)) (RC.get (RC.p (32 : Nat) (wayL (hOfs ([(PV.arr EK.u8 (32 : Nat) (Vector.setIfInBounds (Vector.replicate (32 : Nat) (0 : UInt8)) (0 : Nat) (1 : UInt8))), (PV.arr EK.u8 (32 : Nat) (Vector.setIfInBounds (Vector.replicate (32 : Nat) (0 : UInt8)) (0 : Nat) (2 : UInt8))), (PV.arr EK.u8 (32 : Nat) (Vector.setIfInBounds (Vector.replicate (32 : Nat) (0 : UInt8)) (0 : Nat) (1 : UInt8)))] : List PV)) (2 : Int))) ([(PE.i (0 : Nat))] : List PE))) = true) ∧ (condP (eqb (bif true then (decide ((Vector.toList (PV.vecv EK.u8 (32 : Nat) (RC.get (RC.p (32 : Nat) (wayL (hOfs ([(PV.arr EK.u8 (32 : Nat) (Vector.setIfInBounds (Vector.replicate (32 : Nat) (0 : UInt8)) (0 : Nat) (1 : UInt8))), (PV.arr EK.u8 (32 : Nat) (Vector.setIfInBounds (Vector.replicate (32 : Nat) (0 : UInt8)) (0 : Nat) (2 : UInt8))), (PV.arr EK.u8 (32 : Nat) (Vector.setIfInBounds (Vector.replicate (32 : Nat) (0 : UInt8)) (0 : Nat) (1 : UInt8)))] : List PV)) (2 : Int))) ([(PE.i (0 : Nat))] : List PE)))) = (Vector.toList (Vector.setIfInBounds (Vector.replicate (32 : Nat) (0 : UInt8)) (0 : Nat) (1 : UInt8))))) else false) true) (condP (eqb (bif true then (decide ((wayE (hOfs ([(PV.arr EK.u8 (32 : Nat) (Vector.setIfInBounds (Vector.replicate (32 : Nat) (0 : UInt8)) (0 : Nat) (1 : UInt8))), (PV.arr EK.u8 (32 : Nat) (Vector.setIfInBounds (Vector.replicate (32 : Nat) (0 : UInt8)) (0 : Nat) (2 : UInt8))), (PV.arr EK.u8 (32 : Nat) (Vector.setIfInBounds (Vector.replicate (32 : Nat) (0 : UInt8)) (0 : Nat) (1 : UInt8)))] : List PV)) (2 : Int)) = (0 : Int))) else false) true) (Q (law09_works_enc (bif true then (decide ((wayE (hOfs ([(PV.arr EK.u8 (32 : Nat) (Vector.setIfInBounds (Vector.replicate (32 : Nat) (0 : UInt8)) (0 : Nat) (1 : UInt8))), (PV.arr EK.u8 (32 : Nat) (Vector.setIfInBounds (Vector.replicate (32 : Nat) (0 : UInt8)) (0 : Nat) (2 : UInt8))), (PV.arr EK.u8 (32 : Nat) (Vector.setIfInBounds (Vector.replicate (32 : Nat) (0 : UInt8)) (0 : Nat) (1 : UInt8)))] : List PV)) (3 : Int)) = (2 : Int))) else false))) (Q (law09_works_enc false))) (Q (law09_works_enc false))))) (Q (law09_works_enc false))) (Q (law09_works_enc false))) (Q (law09_works_enc false))) (Q (law09_works_enc false))) (Q (law09_works_enc false))) (Q (law09_works_enc false))))))))) := by kernel_rfl
theorem law09_works_w  {r} {Q : CallOut → Prop} (h : law09_works  = some r) (hQ : Q (law09_works_enc r)) : evalFnP law09_works_C law09_works_lv law09_works_r law09_works_hs law09_works_b [] [] Q :=
  Eq.mpr (law09_works_e  Q) (have h := (law09_works_q ).symm.trans h; ⟨by decide +kernel, ⟨by decide +kernel, ⟨by decide +kernel, ⟨by decide +kernel, ⟨by decide +kernel, ⟨by decide +kernel, cond_ok h (fun h => cond_ok h (fun h => cond_ok h (fun h => cond_ok h (fun h => cond_ok h (fun h => cond_ok h (fun h => ite_ok h fun hc0 h => ite_ok h fun hc1 h => cond_ok h (fun h => cond_ok h (fun h => ret_ok (Q := Q) (e := law09_works_enc) h hQ) (fun h => ret_ok (Q := Q) (e := law09_works_enc) h hQ)) (fun h => ret_ok (Q := Q) (e := law09_works_enc) h hQ)) (fun h => ret_ok (Q := Q) (e := law09_works_enc) h hQ)) (fun h => ret_ok (Q := Q) (e := law09_works_enc) h hQ)) (fun h => ret_ok (Q := Q) (e := law09_works_enc) h hQ)) (fun h => ret_ok (Q := Q) (e := law09_works_enc) h hQ)) (fun h => ret_ok (Q := Q) (e := law09_works_enc) h hQ)) (fun h => ret_ok (Q := Q) (e := law09_works_enc) h hQ)⟩⟩⟩⟩⟩⟩)
def law09_works_c : Ans
  | [], [] => some (none, law09_works_enc (true))
  | _, _ => none
theorem law09_works_tok : TblOK Tryd.prog theG law09_works_T := .cons ⟨by kernel_rfl, merkle_Root_ok⟩ (.cons ⟨by kernel_rfl, merkle_Way_ok⟩ (.nil))
theorem law09_works_ok : FnOK Tryd.prog theG 12 (unW law09_works_c) := by
  refine FnOK.ofC (T := law09_works_T) (nt := 95) (np := 0) (nf := false) (hs := law09_works_hs) (fn := Tryd.f12) (body := law09_works_b) law09_works_tok (by kernel_rfl) (by kernel_rfl) (by kernel_rfl) (by kernel_rfl) (c := law09_works_c) (lv := law09_works_lv) ?_
  intro xs mem p out h hp
  unfold law09_works_c at h
  split at h
  · cases h
    exact law09_works_w  law09_works_spec rfl
  · cases h
end
end Go.Proofs.YtbdajagcinfeeaaDoor.M

namespace Go.Proofs.YtbdajagcinfeeaaDoor.M
open Go
noncomputable section
set_option maxRecDepth 100000
set_option maxHeartbeats 0
noncomputable def law09_pair_T : Tbl := []
noncomputable def law09_pair_C : CfgW := mkC Tryd.prog theG law09_pair_T 49 0 false
def law09_pair_lv : Nat → List Nat := fun i => bif Nat.beq i 2 then [6, 7, 9] else bif Nat.beq i 0 then [5, 6, 7, 8] else []
noncomputable abbrev law09_pair_b : Code := Tryd.f35.body.getD .skip
noncomputable abbrev law09_pair_r : List ResultVar := Tryd.f35.results.toList
def law09_pair_hs : List Nat := []

def law09_pair_enc (r : List UInt8) : CallOut := ⟨.o 60000, [(60000, .row (.s .u8 r) false)], true, []⟩
def law09_pair_s0 (k_ : Int) (a : Vector UInt8 32) (b : Vector UInt8 32) (out : List UInt8) : St := ⟨[(5, .p 60000 []), (6, .p 60001 []), (7, .o 60002), (8, .pv (.sc .i k_))], [(60000, .box (.pv (.arr .u8 32 a))), (60001, .box (.pv (.arr .u8 32 b))), (60002, .row (.s .u8 out) false)]⟩
def law09_pair_s2 (k_ : Int) (b : Vector UInt8 32) (out : List UInt8) : St := ⟨[(6, .p 60000 []), (7, .o 60001), (9, .pv (.sc .i k_))], [(60000, .box (.pv (.arr .u8 32 b))), (60001, .row (.s .u8 out) false)]⟩
theorem law09_pair_g0 (k_ : Int) (a : Vector UInt8 32) (b : Vector UInt8 32) (out : List UInt8) (Q : CallOut → Prop) : headRound law09_pair_C law09_pair_lv [true, true, true, true, false, true, false] law09_pair_b (law09_pair_s0 k_ a b out) (fnK law09_pair_C law09_pair_r law09_pair_hs Q) =
    (condP (decide (k_ < (32 : Int))) ((((0 : Int) ≤ k_) ∧ (k_ < (32 : Int))) ∧ (((((List.length (out ++ ([(List.getD (Vector.toList a) (Int.toNat k_) (0 : UInt8))] : List UInt8))) * (1 : Nat)) ≤ (70368744177664 : Nat)) ∧ ((List.length (out ++ ([(List.getD (Vector.toList a) (Int.toNat k_) (0 : UInt8))] : List UInt8))) ≤ (70368744177664 : Nat))) ∧ (headP law09_pair_C law09_pair_lv [true, true, true, true, false, true, false] law09_pair_b (law09_pair_s0 (w64 (k_ + (1 : Int))) a b (out ++ ([(List.getD (Vector.toList a) (Int.toNat k_) (0 : UInt8))] : List UInt8))) (fnK law09_pair_C law09_pair_r law09_pair_hs Q)))) (headP law09_pair_C law09_pair_lv [true, true, true, true, true, false, true, false] law09_pair_b (law09_pair_s2 (0 : Int) b out) (fnK law09_pair_C law09_pair_r law09_pair_hs Q))) := by kernel_rfl
theorem law09_pair_g2 (k_ : Int) (b : Vector UInt8 32) (out : List UInt8) (Q : CallOut → Prop) : headRound law09_pair_C law09_pair_lv [true, true, true, true, true, false, true, false] law09_pair_b (law09_pair_s2 k_ b out) (fnK law09_pair_C law09_pair_r law09_pair_hs Q) =
    (condP (decide (k_ < (32 : Int))) ((((0 : Int) ≤ k_) ∧ (k_ < (32 : Int))) ∧ (((((List.length (out ++ ([(List.getD (Vector.toList b) (Int.toNat k_) (0 : UInt8))] : List UInt8))) * (1 : Nat)) ≤ (70368744177664 : Nat)) ∧ ((List.length (out ++ ([(List.getD (Vector.toList b) (Int.toNat k_) (0 : UInt8))] : List UInt8))) ≤ (70368744177664 : Nat))) ∧ (headP law09_pair_C law09_pair_lv [true, true, true, true, true, false, true, false] law09_pair_b (law09_pair_s2 (w64 (k_ + (1 : Int))) b (out ++ ([(List.getD (Vector.toList b) (Int.toNat k_) (0 : UInt8))] : List UInt8))) (fnK law09_pair_C law09_pair_r law09_pair_hs Q)))) (Q (law09_pair_enc out))) := by kernel_rfl
theorem law09_pair_k2 {r : List UInt8} {Q : CallOut → Prop} (hQ : Q (law09_pair_enc r)) : ∀ k : Nat, (∀ (k_ : Int) (b : Vector UInt8 32) (out : List UInt8), law09_pair_h2 k k_ b out = some r → headP law09_pair_C law09_pair_lv [true, true, true, true, true, false, true, false] law09_pair_b (law09_pair_s2 k_ b out) (fnK law09_pair_C law09_pair_r law09_pair_hs Q))
  | 0 => fun _ _ _ h => no_ok h
  | k + 1 => fun k_ b out h => headP_step (Eq.mpr (law09_pair_g2 k_ b out Q) (have h := (law09_pair_h2_q k k_ b out).symm.trans h; cond_ok h (fun h => ite_ok h fun hc0 h => ite_ok h fun hc1 h => (law09_pair_k2 hQ k) _ _ _ h) (fun h => ret_ok (Q := Q) (e := law09_pair_enc) h hQ)))
theorem law09_pair_k0 {r : List UInt8} {Q : CallOut → Prop} (hQ : Q (law09_pair_enc r)) : ∀ k : Nat, (∀ (k_ : Int) (a : Vector UInt8 32) (b : Vector UInt8 32) (out : List UInt8), law09_pair_h0 k k_ a b out = some r → headP law09_pair_C law09_pair_lv [true, true, true, true, false, true, false] law09_pair_b (law09_pair_s0 k_ a b out) (fnK law09_pair_C law09_pair_r law09_pair_hs Q))
  | 0 => fun _ _ _ _ h => no_ok h
  | k + 1 => fun k_ a b out h => headP_step (Eq.mpr (law09_pair_g0 k_ a b out Q) (have h := (law09_pair_h0_q k k_ a b out).symm.trans h; cond_ok h (fun h => ite_ok h fun hc0 h => ite_ok h fun hc1 h => (law09_pair_k0 hQ k) _ _ _ _ h) (fun h => (law09_pair_k2 hQ _) _ _ _ h)))
theorem law09_pair_e (l : List PV) (i : Int) (Q : CallOut → Prop) : evalFnP law09_pair_C law09_pair_lv law09_pair_r law09_pair_hs law09_pair_b [.pv (.sp 32 l), .pv (.sc .i i)] [] Q =
    (((((0 : Int) ≤ i) ∧ (i < (((List.length l) : Nat) : Int))) ∧ ((TY.chk (TY.arr EK.u8 (32 : Nat)) (List.getD l (Int.toNat i) PV.nilp)) = true)) ∧ (((((0 : Int) ≤ i) ∧ (i < (((List.length l) : Nat) : Int))) ∧ ((TY.chk (TY.arr EK.u8 (32 : Nat)) (List.getD l (Int.toNat i) PV.nilp)) = true)) ∧ (condP (decide ((w64 (i + (1 : Int))) < (((List.length l) : Nat) : Int))) (((((0 : Int) ≤ (w64 (i + (1 : Int)))) ∧ ((w64 (i + (1 : Int))) < (((List.length l) : Nat) : Int))) ∧ ((TY.chk (TY.arr EK.u8 (32 : Nat)) (List.getD l (Int.toNat (w64 (i + (1 : Int)))) PV.nilp)) = true)) ∧ (headP law09_pair_C law09_pair_lv [true, true, true, true, false, true, false] law09_pair_b (law09_pair_s0 (0 : Int) (PV.vecv EK.u8 (32 : Nat) (List.getD l (Int.toNat i) PV.nilp)) (PV.vecv EK.u8 (32 : Nat) (List.getD l (Int.toNat (w64 (i + (1 : Int)))) PV.nilp)) ([] : List UInt8)) (fnK law09_pair_C law09_pair_r law09_pair_hs Q))) (headP law09_pair_C law09_pair_lv [true, true, true, true, false, true, false] law09_pair_b (law09_pair_s0 (0 : Int) (PV.vecv EK.u8 (32 : Nat) (List.getD l (Int.toNat i) PV.nilp)) (PV.vecv EK.u8 (32 : Nat) (List.getD l (Int.toNat i) PV.nilp)) ([] : List UInt8)) (fnK law09_pair_C law09_pair_r law09_pair_hs Q))))) := by kernel_rfl
theorem law09_pair_w {k : Nat} (l : List PV) (i : Int) {r} {Q : CallOut → Prop} (h : law09_pair k l i = some r) (hQ : Q (law09_pair_enc r)) : evalFnP law09_pair_C law09_pair_lv law09_pair_r law09_pair_hs law09_pair_b [.pv (.sp 32 l), .pv (.sc .i i)] [] Q :=
  Eq.mpr (law09_pair_e l i Q) (have h := (law09_pair_q k l i).symm.trans h; ite_ok h fun hc0 h => ⟨hc0, cond_ok h (fun h => ite_ok h fun hc1 h => (law09_pair_k0 hQ _) _ _ _ _ h) (fun h => (law09_pair_k0 hQ _) _ _ _ _ h)⟩)
def law09_pair_c : Ans
  | [.pv (.sp 32 l), .pv (.sc .i i)], [] => some (some (hashesB l = true ∧ 0 ≤ i ∧ i < l.length), law09_pair_enc (pairS l i))
  | _, _ => none
theorem law09_pair_tok : TblOK Tryd.prog theG law09_pair_T := .nil
theorem law09_pair_ok : FnOK Tryd.prog theG 35 (unW law09_pair_c) := by
  refine FnOK.ofC (T := law09_pair_T) (nt := 49) (np := 0) (nf := false) (hs := law09_pair_hs) (fn := Tryd.f35) (body := law09_pair_b) law09_pair_tok (by kernel_rfl) (by kernel_rfl) (by kernel_rfl) (by kernel_rfl) (c := law09_pair_c) (lv := law09_pair_lv) ?_
  intro xs mem p out h hp
  unfold law09_pair_c at h
  split at h
  · cases h
    obtain ⟨k, hk⟩ := law09_pair_spec _ _ hp
    exact law09_pair_w _ _ hk rfl
  · cases h
end
end Go.Proofs.YtbdajagcinfeeaaDoor.M

namespace Go.Proofs.YtbdajagcinfeeaaDoor.M
open Go
noncomputable section
set_option maxRecDepth 100000
set_option maxHeartbeats 0
noncomputable def law09_collides_T : Tbl := [(35, [], law09_pair_c), (36, [], ref02_Twice_c), (20, [], ref00_Same_c)]
noncomputable def law09_collides_C : CfgW := mkC Tryd.prog theG law09_collides_T 57 0 false
def law09_collides_lv : Nat → List Nat := fun i => bif Nat.beq i 2 then [0, 1, 5, 6, 7] else bif Nat.beq i 0 then [0, 1] else bif Nat.beq i 1000012 then [5, 6] else []
noncomputable abbrev law09_collides_b : Code := Tryd.f13.body.getD .skip
noncomputable abbrev law09_collides_r : List ResultVar := Tryd.f13.results.toList
def law09_collides_hs : List Nat := []

def law09_collides_enc (r : Bool) : CallOut := ⟨.pv (.sc .b r), [], true, []⟩
def law09_collides_s0 (a : List PV) (b : List PV) : St := ⟨[(0, .pv (.sp 32 a)), (1, .pv (.sp 32 b))], []⟩
def law09_collides_s2 (a : List PV) (b : List PV) (i : Int) (c : List PV) (d : List PV) : St := ⟨[(0, .pv (.sp 32 a)), (1, .pv (.sp 32 b)), (5, .o 60000), (6, .o 60001), (7, .pv (.sc .i i))], [(60000, .row (.p 32 c) false), (60001, .row (.p 32 d) false)]⟩
theorem law09_collides_g0 (a : List PV) (b : List PV) (Q : CallOut → Prop) : headRound law09_collides_C law09_collides_lv [true, false, false] law09_collides_b (law09_collides_s0 a b) (fnK law09_collides_C law09_collides_r law09_collides_hs Q) =
    (condP (eqb (decide ((1 : Int) < (((List.length a) : Nat) : Int))) true) (condP (bif true then (decide ((((List.length a) : Nat) : Int) = (((List.length b) : Nat) : Int))) else false) (headP law09_collides_C law09_collides_lv [true, false, false, false, true, false, true, false, true, false] law09_collides_b (law09_collides_s2 a b (0 : Int) ([] : List PV) ([] : List PV)) (fnK law09_collides_C law09_collides_r law09_collides_hs Q)) (Q (law09_collides_enc false))) (Q (law09_collides_enc false))) := by kernel_rfl
theorem law09_collides_g2 (a : List PV) (b : List PV) (i : Int) (c : List PV) (d : List PV) (Q : CallOut → Prop) : headRound law09_collides_C law09_collides_lv [true, false, false, false, true, false, true, false, true, false] law09_collides_b (law09_collides_s2 a b i c d) (fnK law09_collides_C law09_collides_r law09_collides_hs Q) =
    (condP (decide (i < (((List.length a) : Nat) : Int))) ((((hashesB a) = true) ∧ (((0 : Int) ≤ i) ∧ (i < (((List.length a) : Nat) : Int)))) ∧ ((((hashesB b) = true) ∧ (((0 : Int) ≤ i) ∧ (i < (((List.length b) : Nat) : Int)))) ∧ (((List.length (pairS a i)) ≤ (1099511627776 : Nat)) ∧ (((List.length (pairS b i)) ≤ (1099511627776 : Nat)) ∧ (condP (eqb (decide ((Vector.toList (shaSum (Vector.toList (shaSum (pairS a i))))) = (Vector.toList (shaSum (Vector.toList (shaSum (pairS b i))))))) true) (((List.length (pairS a i)) ≤ (1152921504606846976 : Nat)) ∧ (condP (bif true then (!(decide ((pairS a i) = (pairS b i)))) else false) (Q (law09_collides_enc true)) (((((List.length (c ++ ([(PV.arr EK.u8 (32 : Nat) (shaSum (Vector.toList (shaSum (pairS a i)))))] : List PV))) * (32 : Nat)) ≤ (70368744177664 : Nat)) ∧ ((List.length (c ++ ([(PV.arr EK.u8 (32 : Nat) (shaSum (Vector.toList (shaSum (pairS a i)))))] : List PV))) ≤ (70368744177664 : Nat))) ∧ (((((List.length (d ++ ([(PV.arr EK.u8 (32 : Nat) (shaSum (Vector.toList (shaSum (pairS b i)))))] : List PV))) * (32 : Nat)) ≤ (70368744177664 : Nat)) ∧ ((List.length (d ++ ([(PV.arr EK.u8 (32 : Nat) (shaSum (Vector.toList (shaSum (pairS b i)))))] : List PV))) ≤ (70368744177664 : Nat))) ∧ (headP law09_collides_C law09_collides_lv [true, false, false, false, true, false, true, false, true, false] law09_collides_b (law09_collides_s2 a b (w64 (i + (2 : Int))) (c ++ ([(PV.arr EK.u8 (32 : Nat) (shaSum (Vector.toList (shaSum (pairS a i)))))] : List PV)) (d ++ ([(PV.arr EK.u8 (32 : Nat) (shaSum (Vector.toList (shaSum (pairS b i)))))] : List PV))) (fnK law09_collides_C law09_collides_r law09_collides_hs Q)))))) (((((List.length (c ++ ([(PV.arr EK.u8 (32 : Nat) (shaSum (Vector.toList (shaSum (pairS a i)))))] : List PV))) * (32 : Nat)) ≤ (70368744177664 : Nat)) ∧ ((List.length (c ++ ([(PV.arr EK.u8 (32 : Nat) (shaSum (Vector.toList (shaSum (pairS a i)))))] : List PV))) ≤ (70368744177664 : Nat))) ∧ (((((List.length (d ++ ([(PV.arr EK.u8 (32 : Nat) (shaSum (Vector.toList (shaSum (pairS b i)))))] : List PV))) * (32 : Nat)) ≤ (70368744177664 : Nat)) ∧ ((List.length (d ++ ([(PV.arr EK.u8 (32 : Nat) (shaSum (Vector.toList (shaSum (pairS b i)))))] : List PV))) ≤ (70368744177664 : Nat))) ∧ (headP law09_collides_C law09_collides_lv [true, false, false, false, true, false, true, false, true, false] law09_collides_b (law09_collides_s2 a b (w64 (i + (2 : Int))) (c ++ ([(PV.arr EK.u8 (32 : Nat) (shaSum (Vector.toList (shaSum (pairS a i)))))] : List PV)) (d ++ ([(PV.arr EK.u8 (32 : Nat) (shaSum (Vector.toList (shaSum (pairS b i)))))] : List PV))) (fnK law09_collides_C law09_collides_r law09_collides_hs Q))))))))) (headP law09_collides_C law09_collides_lv [true, false, false] law09_collides_b (law09_collides_s0 c d) (fnK law09_collides_C law09_collides_r law09_collides_hs Q))) := by kernel_rfl
theorem law09_collides_k0 {r : Bool} {Q : CallOut → Prop} (hQ : Q (law09_collides_enc r)) : ∀ k : Nat, (∀ (a : List PV) (b : List PV), law09_collides_h0 k a b = some r → headP law09_collides_C law09_collides_lv [true, false, false] law09_collides_b (law09_collides_s0 a b) (fnK law09_collides_C law09_collides_r law09_collides_hs Q)) ∧ (∀ (a : List PV) (b : List PV) (i : Int) (c : List PV) (d : List PV), law09_collides_h2 k a b i c d = some r → headP law09_collides_C law09_collides_lv [true, false, false, false, true, false, true, false, true, false] law09_collides_b (law09_collides_s2 a b i c d) (fnK law09_collides_C law09_collides_r law09_collides_hs Q))
  | 0 => ⟨fun _ _ h => no_ok h, fun _ _ _ _ _ h => no_ok h⟩
  | k + 1 => ⟨fun a b h => headP_step (Eq.mpr (law09_collides_g0 a b Q) (have h := (law09_collides_h0_q k a b).symm.trans h; cond_ok h (fun h => cond_ok h (fun h => (law09_collides_k0 hQ k).2 _ _ _ _ _ h) (fun h => ret_ok (Q := Q) (e := law09_collides_enc) h hQ)) (fun h => ret_ok (Q := Q) (e := law09_collides_enc) h hQ))),
    fun a b i c d h => headP_step (Eq.mpr (law09_collides_g2 a b i c d Q) (have h := (law09_collides_h2_q k a b i c d).symm.trans h; cond_ok h (fun h => ite_ok h fun hc0 h => ite_ok h fun hc1 h => ite_ok h fun hc2 h => ite_ok h fun hc3 h => cond_ok h (fun h => ite_ok h fun hc4 h => cond_ok h (fun h => ret_ok (Q := Q) (e := law09_collides_enc) h hQ) (fun h => ite_ok h fun hc5 h => ite_ok h fun hc6 h => (law09_collides_k0 hQ k).2 _ _ _ _ _ h)) (fun h => ite_ok h fun hc4 h => ite_ok h fun hc5 h => (law09_collides_k0 hQ k).2 _ _ _ _ _ h)) (fun h => (law09_collides_k0 hQ k).1 _ _ h)))⟩
theorem law09_collides_e (a : List PV) (b : List PV) (Q : CallOut → Prop) : evalFnP law09_collides_C law09_collides_lv law09_collides_r law09_collides_hs law09_collides_b [.pv (.sp 32 a), .pv (.sp 32 b)] [] Q =
    (headP law09_collides_C law09_collides_lv [true, false, false] law09_collides_b (law09_collides_s0 a b) (fnK law09_collides_C law09_collides_r law09_collides_hs Q)) := by kernel_rfl
theorem law09_collides_w {k : Nat} (a : List PV) (b : List PV) {r} {Q : CallOut → Prop} (h : law09_collides k a b = some r) (hQ : Q (law09_collides_enc r)) : evalFnP law09_collides_C law09_collides_lv law09_collides_r law09_collides_hs law09_collides_b [.pv (.sp 32 a), .pv (.sp 32 b)] [] Q :=
  Eq.mpr (law09_collides_e a b Q) (have h := (law09_collides_q k a b).symm.trans h; (law09_collides_k0 hQ _).1 _ _ h)
def law09_collides_c : Ans
  | [.pv (.sp 32 a), .pv (.sp 32 b)], [] => some (some (hashesB a = true ∧ hashesB b = true ∧ a.length = b.length), law09_collides_enc (collS (hOfs a) (hOfs b)))
  | _, _ => none
theorem law09_collides_tok : TblOK Tryd.prog theG law09_collides_T := .cons ⟨by kernel_rfl, law09_pair_ok⟩ (.cons ⟨by kernel_rfl, ref02_Twice_ok⟩ (.cons ⟨by kernel_rfl, ref00_Same_ok⟩ (.nil)))
theorem law09_collides_ok : FnOK Tryd.prog theG 13 (unW law09_collides_c) := by
  refine FnOK.ofC (T := law09_collides_T) (nt := 57) (np := 0) (nf := false) (hs := law09_collides_hs) (fn := Tryd.f13) (body := law09_collides_b) law09_collides_tok (by kernel_rfl) (by kernel_rfl) (by kernel_rfl) (by kernel_rfl) (c := law09_collides_c) (lv := law09_collides_lv) ?_
  intro xs mem p out h hp
  unfold law09_collides_c at h
  split at h
  · cases h
    obtain ⟨k, hk⟩ := law09_collides_spec _ _ hp
    exact law09_collides_w _ _ hk rfl
  · cases h
end
end Go.Proofs.YtbdajagcinfeeaaDoor.M
