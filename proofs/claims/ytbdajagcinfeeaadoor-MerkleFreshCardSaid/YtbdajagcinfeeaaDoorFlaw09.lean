/- Part of the proofs: what functions of the program do: plain functions, and the walks that show it. No condition. -/
import Derived.KernelRfl
import Derived.Test.YtbdajagcinfeeaaDoorProg
import Derived.Test.YtbdajagcinfeeaaDoorLe
import Derived.Test.YtbdajagcinfeeaaDoorFmerkle
import Derived.Test.YtbdajagcinfeeaaDoorSwords
import Derived.Test.YtbdajagcinfeeaaDoorSshaS
import Derived.Test.YtbdajagcinfeeaaDoorSmerS
import Derived.Test.YtbdajagcinfeeaaDoorSshaK
set_option linter.unusedVariables false
set_option linter.unusedSimpArgs false
set_option autoImplicit false
namespace Go.Proofs.YtbdajagcinfeeaaDoor.M
open Go
noncomputable section
/-- moneyer/moneyerlaw09.works -/
def law09_works  : Option (Bool) :=
  bif eqb (!(rootB (hOfs ([] : List PV)))) true then (bif eqb (bif true then (decide ((Vector.toList (rootV (hOfs ([(PV.arr EK.u8 (32 : Nat) (Vector.setIfInBounds (Vector.replicate (32 : Nat) (0 : UInt8)) (0 : Nat) (1 : UInt8)))] : List PV)))) = (Vector.toList (Vector.setIfInBounds (Vector.replicate (32 : Nat) (0 : UInt8)) (0 : Nat) (1 : UInt8))))) else false) true then (bif eqb (bif true then (rootB (hOfs ([(PV.arr EK.u8 (32 : Nat) (Vector.setIfInBounds (Vector.replicate (32 : Nat) (0 : UInt8)) (0 : Nat) (1 : UInt8)))] : List PV))) else false) true then (bif eqb (bif true then (!(rootB (hOfs ([(PV.arr EK.u8 (32 : Nat) (Vector.setIfInBounds (Vector.replicate (32 : Nat) (0 : UInt8)) (0 : Nat) (1 : UInt8))), (PV.arr EK.u8 (32 : Nat) (Vector.setIfInBounds (Vector.replicate (32 : Nat) (0 : UInt8)) (0 : Nat) (1 : UInt8)))] : List PV)))) else false) true then (bif eqb (bif true then (rootB (hOfs ([(PV.arr EK.u8 (32 : Nat) (Vector.setIfInBounds (Vector.replicate (32 : Nat) (0 : UInt8)) (0 : Nat) (1 : UInt8))), (PV.arr EK.u8 (32 : Nat) (Vector.setIfInBounds (Vector.replicate (32 : Nat) (0 : UInt8)) (0 : Nat) (2 : UInt8))), (PV.arr EK.u8 (32 : Nat) (Vector.setIfInBounds (Vector.replicate (32 : Nat) (0 : UInt8)) (0 : Nat) (2 : UInt8)))] : List PV))) else false) true then (bif eqb (bif true then (decide ((((List.length (wayL (hOfs ([(PV.arr EK.u8 (32 : Nat) (Vector.setIfInBounds (Vector.replicate (32 : Nat) (0 : UInt8)) (0 : Nat) (1 : UInt8))), (PV.arr EK.u8 (32 : Nat) (Vector.setIfInBounds (Vector.replicate (32 : Nat) (0 : UInt8)) (0 : Nat) (2 : UInt8))), (PV.arr EK.u8 (32 : Nat) (Vector.setIfInBounds (Vector.replicate (32 : Nat) (0 : UInt8)) (0 : Nat) (1 : UInt8)))] : List PV)) (2 : Int))) : Nat) : Int) = (2 : Int))) else false) true then (if ((0 : Int) ≤ (0 : Int)) ∧ ((0 : Int) < (((List.length (wayL (hOfs ([(PV.arr EK.u8 (32 : Nat) (Vector.setIfInBounds (Vector.replicate (32 : Nat) (0 : UInt8)) (0 : Nat) (1 : UInt8))), (PV.arr EK.u8 (32 : Nat) (Vector.setIfInBounds (Vector.replicate (32 : Nat) (0 : UInt8)) (0 : Nat) (2 : UInt8))), (PV.arr EK.u8 (32 : Nat) (Vector.setIfInBounds (Vector.replicate (32 : Nat) (0 : UInt8)) (0 : Nat) (1 : UInt8)))] : List PV)) (2 : Int))) : Nat) : Int)) then
                if (TY.chk (TY.arr EK.u8 (32 : Nat)) (RC.get (RC.p (32 : Nat) (wayL (hOfs ([(PV.arr EK.u8 (32 : Nat) (Vector.setIfInBounds (Vector.replicate (32 : Nat) (0 : UInt8)) (0 : Nat) (1 : UInt8))), (PV.arr EK.u8 (32 : Nat) (Vector.setIfInBounds (Vector.replicate (32 : Nat) (0 : UInt8)) (0 : Nat) (2 : UInt8))), (PV.arr EK.u8 (32 : Nat) (Vector.setIfInBounds (Vector.replicate (32 : Nat) (0 : UInt8)) (0 : Nat) (1 : UInt8)))] : List PV)) (2 : Int))) ([(PE.i (0 : Nat))] : List PE))) = true then
                  bif eqb (bif true then (decide ((Vector.toList (PV.vecv EK.u8 (32 : Nat) (RC.get (RC.p (32 : Nat) (wayL (hOfs ([(PV.arr EK.u8 (32 : Nat) (Vector.setIfInBounds (Vector.replicate (32 : Nat) (0 : UInt8)) (0 : Nat) (1 : UInt8))), (PV.arr EK.u8 (32 : Nat) (Vector.setIfInBounds (Vector.replicate (32 : Nat) (0 : UInt8)) (0 : Nat) (2 : UInt8))), (PV.arr EK.u8 (32 : Nat) (Vector.setIfInBounds (Vector.replicate (32 : Nat) (0 : UInt8)) (0 : Nat) (1 : UInt8)))] : List PV)) (2 : Int))) ([(PE.i (0 : Nat))] : List PE)))) = (Vector.toList (Vector.setIfInBounds (Vector.replicate (32 : Nat) (0 : UInt8)) (0 : Nat) (1 : UInt8))))) else false) true then (bif eqb (bif true then (decide ((wayE (hOfs ([(PV.arr EK.u8 (32 : Nat) (Vector.setIfInBounds (Vector.replicate (32 : Nat) (0 : UInt8)) (0 : Nat) (1 : UInt8))), (PV.arr EK.u8 (32 : Nat) (Vector.setIfInBounds (Vector.replicate (32 : Nat) (0 : UInt8)) (0 : Nat) (2 : UInt8))), (PV.arr EK.u8 (32 : Nat) (Vector.setIfInBounds (Vector.replicate (32 : Nat) (0 : UInt8)) (0 : Nat) (1 : UInt8)))] : List PV)) (2 : Int)) = (0 : Int))) else false) true then (some (bif true then (decide ((wayE (hOfs ([(PV.arr EK.u8 (32 : Nat) (Vector.setIfInBounds (Vector.replicate (32 : Nat) (0 : UInt8)) (0 : Nat) (1 : UInt8))), (PV.arr EK.u8 (32 : Nat) (Vector.setIfInBounds (Vector.replicate (32 : Nat) (0 : UInt8)) (0 : Nat) (2 : UInt8))), (PV.arr EK.u8 (32 : Nat) (Vector.setIfInBounds (Vector.replicate (32 : Nat) (0 : UInt8)) (0 : Nat) (1 : UInt8)))] : List PV)) (3 : Int)) = (2 : Int))) else false))
                      else (some false))
                    else (some false)
                else none
              else none)
              else (some false))
            else (some false))
          else (some false))
        else (some false))
      else (some false))
    else (some false)
theorem law09_works_q  : law09_works  = (bif eqb (!(rootB (hOfs ([] : List PV)))) true then (bif eqb (bif true then (decide ((Vector.toList (rootV (hOfs ([(PV.arr EK.u8 (32 : Nat) (Vector.setIfInBounds (Vector.replicate (32 : Nat) (0 : UInt8)) (0 : Nat) (1 : UInt8)))] : List PV)))) = (Vector.toList (Vector.setIfInBounds (Vector.replicate (32 : Nat) (0 : UInt8)) (0 : Nat) (1 : UInt8))))) else false) true then (bif eqb (bif true then (rootB (hOfs ([(PV.arr EK.u8 (32 : Nat) (Vector.setIfInBounds (Vector.replicate (32 : Nat) (0 : UInt8)) (0 : Nat) (1 : UInt8)))] : List PV))) else false) true then (bif eqb (bif true then (!(rootB (hOfs ([(PV.arr EK.u8 (32 : Nat) (Vector.setIfInBounds (Vector.replicate (32 : Nat) (0 : UInt8)) (0 : Nat) (1 : UInt8))), (PV.arr EK.u8 (32 : Nat) (Vector.setIfInBounds (Vector.replicate (32 : Nat) (0 : UInt8)) (0 : Nat) (1 : UInt8)))] : List PV)))) else false) true then (bif eqb (bif true then (rootB (hOfs ([(PV.arr EK.u8 (32 : Nat) (Vector.setIfInBounds (Vector.replicate (32 : Nat) (0 : UInt8)) (0 : Nat) (1 : UInt8))), (PV.arr EK.u8 (32 : Nat) (Vector.setIfInBounds (Vector.replicate (32 : Nat) (0 : UInt8)) (0 : Nat) (2 : UInt8))), (PV.arr EK.u8 (32 : Nat) (Vector.setIfInBounds (Vector.replicate (32 : Nat) (0 : UInt8)) (0 : Nat) (2 : UInt8)))] : List PV))) else false) true then (bif eqb (bif true then (decide ((((List.length (wayL (hOfs ([(PV.arr EK.u8 (32 : Nat) (Vector.setIfInBounds (Vector.replicate (32 : Nat) (0 : UInt8)) (0 : Nat) (1 : UInt8))), (PV.arr EK.u8 (32 : Nat) (Vector.setIfInBounds (Vector.replicate (32 : Nat) (0 : UInt8)) (0 : Nat) (2 : UInt8))), (PV.arr EK.u8 (32 : Nat) (Vector.setIfInBounds (Vector.replicate (32 : Nat) (0 : UInt8)) (0 : Nat) (1 : UInt8)))] : List PV)) (2 : Int))) : Nat) : Int) = (2 : Int))) else false) true then (if ((0 : Int) ≤ (0 : Int)) ∧ ((0 : Int) < (((List.length (wayL (hOfs ([(PV.arr EK.u8 (32 : Nat) (Vector.setIfInBounds (Vector.replicate (32 : Nat) (0 : UInt8)) (0 : Nat) (1 : UInt8))), (PV.arr EK.u8 (32 : Nat) (Vector.setIfInBounds (Vector.replicate (32 : Nat) (0 : UInt8)) (0 : Nat) (2 : UInt8))), (PV.arr EK.u8 (32 : Nat) (Vector.setIfInBounds (Vector.replicate (32 : Nat) (0 : UInt8)) (0 : Nat) (1 : UInt8)))] : List PV)) (2 : Int))) : Nat) : Int)) then
                if (TY.chk (TY.arr EK.u8 (32 : Nat)) (RC.get (RC.p (32 : Nat) (wayL (hOfs ([(PV.arr EK.u8 (32 : Nat) (Vector.setIfInBounds (Vector.replicate (32 : Nat) (0 : UInt8)) (0 : Nat) (1 : UInt8))), (PV.arr EK.u8 (32 : Nat) (Vector.setIfInBounds (Vector.replicate (32 : Nat) (0 : UInt8)) (0 : Nat) (2 : UInt8))), (PV.arr EK.u8 (32 : Nat) (Vector.setIfInBounds (Vector.replicate (32 : Nat) (0 : UInt8)) (0 : Nat) (1 : UInt8)))] : List PV)) (2 : Int))) ([(PE.i (0 : Nat))] : List PE))) = true then
                  bif eqb (bif true then (decide ((Vector.toList (PV.vecv EK.u8 (32 : Nat) (RC.get (RC.p (32 : Nat) (wayL (hOfs ([(PV.arr EK.u8 (32 : Nat) (Vector.setIfInBounds (Vector.replicate (32 : Nat) (0 : UInt8)) (0 : Nat) (1 : UInt8))), (PV.arr EK.u8 (32 : Nat) (Vector.setIfInBounds (Vector.replicate (32 : Nat) (0 : UInt8)) (0 : Nat) (2 : UInt8))), (PV.arr EK.u8 (32 : Nat) (Vector.setIfInBounds (Vector.replicate (32 : Nat) (0 : UInt8)) (0 : Nat) (1 : UInt8)))] : List PV)) (2 : Int))) ([(PE.i (0 : Nat))] : List PE)))) = (Vector.toList (Vector.setIfInBounds (Vector.replicate (32 : Nat) (0 : UInt8)) (0 : Nat) (1 : UInt8))))) else false) true then (bif eqb (bif true then (decide ((wayE (hOfs ([(PV.arr EK.u8 (32 : Nat) (Vector.setIfInBounds (Vector.replicate (32 : Nat) (0 : UInt8)) (0 : Nat) (1 : UInt8))), (PV.arr EK.u8 (32 : Nat) (Vector.setIfInBounds (Vector.replicate (32 : Nat) (0 : UInt8)) (0 : Nat) (2 : UInt8))), (PV.arr EK.u8 (32 : Nat) (Vector.setIfInBounds (Vector.replicate (32 : Nat) (0 : UInt8)) (0 : Nat) (1 : UInt8)))] : List PV)) (2 : Int)) = (0 : Int))) else false) true then (some (bif true then (decide ((wayE (hOfs ([(PV.arr EK.u8 (32 : Nat) (Vector.setIfInBounds (Vector.replicate (32 : Nat) (0 : UInt8)) (0 : Nat) (1 : UInt8))), (PV.arr EK.u8 (32 : Nat) (Vector.setIfInBounds (Vector.replicate (32 : Nat) (0 : UInt8)) (0 : Nat) (2 : UInt8))), (PV.arr EK.u8 (32 : Nat) (Vector.setIfInBounds (Vector.replicate (32 : Nat) (0 : UInt8)) (0 : Nat) (1 : UInt8)))] : List PV)) (3 : Int)) = (2 : Int))) else false))
                      else (some false))
                    else (some false)
                else none
              else none)
              else (some false))
            else (some false))
          else (some false))
        else (some false))
      else (some false))
    else (some false)) := by kernel_rfl
def shFold (p : List UInt8) : Nat → Vector UInt32 8
  | 0 => shaInit
  | n + 1 => shRound shaK (shFold p n) (fun j => p.getD (64 * n + j) 0)
theorem shFold_eq (p : List UInt8) : ∀ n, shaFold p n = shFold p n
  | 0 => rfl
  | n + 1 => by rw [shaFold, shaRound_eq, shFold_eq p n]; rfl
def hA : Vector UInt8 32 := Vector.setIfInBounds (Vector.replicate 32 0) 0 1
def hB : Vector UInt8 32 := Vector.setIfInBounds (Vector.replicate 32 0) 0 2
theorem sha_AB : shaSum (Vector.toList hA ++ Vector.toList hB) = #v[255, 85, 201, 121, 118, 168, 64, 180, 206, 217, 100, 237, 73, 227, 121, 69, 148, 186, 63, 103, 82, 56, 181, 253, 37, 210, 130, 182, 15, 112, 161, 148] := by rw [shaSum_eq, shFold_eq]; decide +kernel
theorem both_AB : bothV hA hB = #v[75, 182, 221, 127, 105, 94, 33, 178, 102, 83, 6, 170, 74, 246, 67, 178, 26, 174, 214, 78, 226, 139, 175, 152, 252, 11, 170, 199, 122, 110, 143, 255] := by rw [bothV_eq, sha_AB, shaSum_eq, shFold_eq]; decide +kernel
theorem sha_BB : shaSum (Vector.toList hB ++ Vector.toList hB) = #v[14, 1, 248, 217, 166, 114, 6, 16, 164, 74, 112, 194, 201, 27, 190, 117, 14, 198, 205, 103, 137, 45, 146, 177, 1, 99, 148, 171, 252, 56, 44, 249] := by rw [shaSum_eq, shFold_eq]; decide +kernel
theorem both_BB : bothV hB hB = #v[228, 141, 151, 240, 79, 24, 51, 165, 19, 12, 49, 3, 23, 236, 118, 13, 93, 33, 70, 98, 102, 188, 120, 255, 235, 81, 191, 75, 221, 83, 11, 48] := by rw [bothV_eq, sha_BB, shaSum_eq, shFold_eq]; decide +kernel
theorem both_ne : bothV hA hB ≠ bothV hB hB := by rw [both_AB, both_BB]; decide +kernel
theorem hA_ne : ¬ hA = hB := by decide +kernel
theorem works_B3 : rootB [hA, hB, hB] = true := by
  rw [rootB_eq, allSoundH_go (by decide), soundH_two, soundH_one, aboveH_two, aboveH_one, allSoundH_go (by decide), soundH_two, soundH_nil, aboveH_two, aboveH_nil, allSoundH_end (by decide), decide_eq_false hA_ne, decide_eq_false both_ne, decide_eq_true (by simp)]
  rfl
theorem works_B2 : rootB [hA, hA] = false := by
  rw [rootB_eq, allSoundH_go (by decide), soundH_two, decide_eq_true rfl]
  simp
theorem works_B1 : rootB [hA] = true := by
  rw [rootB_eq, allSoundH_end (by decide)]; simp
theorem works_V1 : rootV [hA] = hA := by
  rw [rootV_eq, allSoundH_end (by decide), topH_end (by decide), if_pos ⟨by simp, rfl⟩]; rfl
theorem works_B0 : rootB [] = false := by rw [rootB_eq]; simp
theorem works_W : wayGo [hA, hB, hA] 2 = [hA, bothV hA hB] := by
  rw [wayGo_go (by decide), aboveH_two, aboveH_one, wayGo_go (by decide), aboveH_two, aboveH_nil, wayGo_end (by decide)]
  rfl
theorem works_L : wayL [hA, hB, hA] 2 = hArrs [hA, bothV hA hB] := by rw [wayL_eq, if_pos (by decide), show Int.toNat 2 = 2 from rfl, works_W]
theorem works_E2 : wayE [hA, hB, hA] 2 = 0 := by rw [wayE_eq, if_pos (by decide)]
theorem works_E3 : wayE [hA, hB, hA] 3 = 2 := by rw [wayE_eq, if_neg (by decide)]
theorem law09_works_spec : law09_works = some true := by
  rw [law09_works]
  have e0 : hOfs ([] : List PV) = [] := rfl
  have e1 : hOfs [PV.arr .u8 32 (Vector.setIfInBounds (Vector.replicate 32 0) 0 1)] = [hA] := rfl
  have e2 : hOfs [PV.arr .u8 32 (Vector.setIfInBounds (Vector.replicate 32 0) 0 1), PV.arr .u8 32 (Vector.setIfInBounds (Vector.replicate 32 0) 0 1)] = [hA, hA] := rfl
  have e3 : hOfs [PV.arr .u8 32 (Vector.setIfInBounds (Vector.replicate 32 0) 0 1), PV.arr .u8 32 (Vector.setIfInBounds (Vector.replicate 32 0) 0 2), PV.arr .u8 32 (Vector.setIfInBounds (Vector.replicate 32 0) 0 2)] = [hA, hB, hB] := rfl
  have e4 : hOfs [PV.arr .u8 32 (Vector.setIfInBounds (Vector.replicate 32 0) 0 1), PV.arr .u8 32 (Vector.setIfInBounds (Vector.replicate 32 0) 0 2), PV.arr .u8 32 (Vector.setIfInBounds (Vector.replicate 32 0) 0 1)] = [hA, hB, hA] := rfl
  rw [e0, e1, e2, e3, e4, works_B0, works_V1, works_B1, works_B2, works_B3, works_L, works_E2, works_E3]
  rw [if_pos (by decide), if_pos (by rfl)]
  have e5 : PV.vecv .u8 32 (RC.get (RC.p 32 (hArrs [hA, bothV hA hB])) [PE.i 0]) = hA := rfl
  rw [e5]
  have e6 : Vector.toList hA = Vector.toList (Vector.setIfInBounds (Vector.replicate 32 (0 : UInt8)) 0 1) := rfl
  rw [decide_eq_true e6]
  rfl

end
end Go.Proofs.YtbdajagcinfeeaaDoor.M

namespace Go.Proofs.YtbdajagcinfeeaaDoor.M
open Go
noncomputable section
set_option maxRecDepth 100000
set_option maxHeartbeats 0
noncomputable def law09_works_T : Tbl := [(11, [], merkle_Root_c), (14, [], merkle_Way_c)]
noncomputable def law09_works_C : CfgW := mkC Tryd.prog theG law09_works_T 95 0 false
def law09_works_lv : Nat → List Nat := fun i => []
noncomputable abbrev law09_works_b : Code := Tryd.f12.body.getD .skip
noncomputable abbrev law09_works_r : List ResultVar := Tryd.f12.results.toList
def law09_works_hs : List Nat := []

def law09_works_enc (r : Bool) : CallOut := ⟨.pv (.sc .b r), [], true, []⟩
theorem law09_works_e  (Q : CallOut → Prop) : evalFnP law09_works_C law09_works_lv law09_works_r law09_works_hs law09_works_b [] [] Q =
    (((hashesB ([] : List PV)) = true) ∧ (((hashesB ([(PV.arr EK.u8 (32 : Nat) (Vector.setIfInBounds (Vector.replicate (32 : Nat) (0 : UInt8)) (0 : Nat) (1 : UInt8)))] : List PV)) = true) ∧ (((hashesB ([(PV.arr EK.u8 (32 : Nat) (Vector.setIfInBounds (Vector.replicate (32 : Nat) (0 : UInt8)) (0 : Nat) (1 : UInt8))), (PV.arr EK.u8 (32 : Nat) (Vector.setIfInBounds (Vector.replicate (32 : Nat) (0 : UInt8)) (0 : Nat) (1 : UInt8)))] : List PV)) = true) ∧ (((hashesB ([(PV.arr EK.u8 (32 : Nat) (Vector.setIfInBounds (Vector.replicate (32 : Nat) (0 : UInt8)) (0 : Nat) (1 : UInt8))), (PV.arr EK.u8 (32 : Nat) (Vector.setIfInBounds (Vector.replicate (32 : Nat) (0 : UInt8)) (0 : Nat) (2 : UInt8))), (PV.arr EK.u8 (32 : Nat) (Vector.setIfInBounds (Vector.replicate (32 : Nat) (0 : UInt8)) (0 : Nat) (2 : UInt8)))] : List PV)) = true) ∧ (((hashesB ([(PV.arr EK.u8 (32 : Nat) (Vector.setIfInBounds (Vector.replicate (32 : Nat) (0 : UInt8)) (0 : Nat) (1 : UInt8))), (PV.arr EK.u8 (32 : Nat) (Vector.setIfInBounds (Vector.replicate (32 : Nat) (0 : UInt8)) (0 : Nat) (2 : UInt8))), (PV.arr EK.u8 (32 : Nat) (Vector.setIfInBounds (Vector.replicate (32 : Nat) (0 : UInt8)) (0 : Nat) (1 : UInt8)))] : List PV)) = true) ∧ (((hashesB ([(PV.arr EK.u8 (32 : Nat) (Vector.setIfInBounds (Vector.replicate (32 : Nat) (0 : UInt8)) (0 : Nat) (1 : UInt8))), (PV.arr EK.u8 (32 : Nat) (Vector.setIfInBounds (Vector.replicate (32 : Nat) (0 : UInt8)) (0 : Nat) (2 : UInt8))), (PV.arr EK.u8 (32 : Nat) (Vector.setIfInBounds (Vector.replicate (32 : Nat) (0 : UInt8)) (0 : Nat) (1 : UInt8)))] : List PV)) = true) ∧ (condP (eqb (!(rootB (hOfs ([] : List PV)))) true) (condP (eqb (bif true then (decide ((Vector.toList (rootV (hOfs ([(PV.arr EK.u8 (32 : Nat) (Vector.setIfInBounds (Vector.replicate (32 : Nat) (0 : UInt8)) (0 : Nat) (1 : UInt8)))] : List PV)))) = (Vector.toList (Vector.setIfInBounds (Vector.replicate (32 : Nat) (0 : UInt8)) (0 : Nat) (1 : UInt8))))) else false) true) (condP (eqb (bif true then (rootB (hOfs ([(PV.arr EK.u8 (32 : Nat) (Vector.setIfInBounds (Vector.replicate (32 : Nat) (0 : UInt8)) (0 : Nat) (1 : UInt8)))] : List PV))) else false) true) (condP (eqb (bif true then (!(rootB (hOfs ([(PV.arr EK.u8 (32 : Nat) (Vector.setIfInBounds (Vector.replicate (32 : Nat) (0 : UInt8)) (0 : Nat) (1 : UInt8))), (PV.arr EK.u8 (32 : Nat) (Vector.setIfInBounds (Vector.replicate (32 : Nat) (0 : UInt8)) (0 : Nat) (1 : UInt8)))] : List PV)))) else false) true) (condP (eqb (bif true then (rootB (hOfs ([(PV.arr EK.u8 (32 : Nat) (Vector.setIfInBounds (Vector.replicate (32 : Nat) (0 : UInt8)) (0 : Nat) (1 : UInt8))), (PV.arr EK.u8 (32 : Nat) (Vector.setIfInBounds (Vector.replicate (32 : Nat) (0 : UInt8)) (0 : Nat) (2 : UInt8))), (PV.arr EK.u8 (32 : Nat) (Vector.setIfInBounds (Vector.replicate (32 : Nat) (0 : UInt8)) (0 : Nat) (2 : UInt8)))] : List PV))) else false) true) (condP (eqb (bif true then (decide ((((List.length (wayL (hOfs ([(PV.arr EK.u8 (32 : Nat) (Vector.setIfInBounds (Vector.replicate (32 : Nat) (0 : UInt8)) (0 : Nat) (1 : UInt8))), (PV.arr EK.u8 (32 : Nat) (Vector.setIfInBounds (Vector.replicate (32 : Nat) (0 : UInt8)) (0 : Nat) (2 : UInt8))), (PV.arr EK.u8 (32 : Nat) (Vector.setIfInBounds (Vector.replicate (32 : Nat) (0 : UInt8)) (0 : Nat) (1 : UInt8)))] : List PV)) (2 : Int))) : Nat) : Int) = (2 : Int))) else false) true) ((((0 : Int) ≤ (0 : Int)) ∧ ((0 : Int) < (((List.length (wayL (hOfs ([(PV.arr EK.u8 (32 : Nat) (Vector.setIfInBounds (Vector.replicate (32 : Nat) (0 : UInt8)) (0 : Nat) (1 : UInt8))), (PV.arr EK.u8 (32 : Nat) (Vector.setIfInBounds (Vector.replicate (32 : Nat) (0 : UInt8)) (0 : Nat) (2 : UInt8))), (PV.arr EK.u8 (32 : Nat) (Vector.setIfInBounds (Vector.replicate (32 : Nat) (0 : UInt8)) (0 : Nat) (1 : UInt8)))] : List PV)) (2 : Int))) : Nat) : Int))) ∧ (((TY.chk (TY.arr EK.u8 (32 : Nat)) (RC.get (RC.p (32 : Nat) (wayL (hOfs ([(PV.arr EK.u8 (32 : Nat) (Vector.setIfInBounds (Vector.replicate (32 : Nat) (0 : UInt8)) (0 : Nat) (1 : UInt8))), (PV.arr EK.u8 (32 : Nat) (Vector.setIfInBounds (Vector.replicate (32 : Nat) (0 : UInt8)) (0 : Nat) (2 : UInt8))), (PV.arr EK.u8 (32 : Nat) (Vector.setIfInBounds (Vector.replicate (32 : Nat) (0 : UInt8)) (0 : Nat) (1 : UInt8)))] : List PV)) (2 : Int))) ([(PE.i (0 : Nat))] : List PE))) = true) ∧ (condP (eqb (bif true then (decide ((Vector.toList (PV.vecv EK.u8 (32 : Nat) (RC.get (RC.p (32 : Nat) (wayL (hOfs ([(PV.arr EK.u8 (32 : Nat) (Vector.setIfInBounds (Vector.replicate (32 : Nat) (0 : UInt8)) (0 : Nat) (1 : UInt8))), (PV.arr EK.u8 (32 : Nat) (Vector.setIfInBounds (Vector.replicate (32 : Nat) (0 : UInt8)) (0 : Nat) (2 : UInt8))), (PV.arr EK.u8 (32 : Nat) (Vector.setIfInBounds (Vector.replicate (32 : Nat) (0 : UInt8)) (0 : Nat) (1 : UInt8)))] : List PV)) (2 : Int))) ([(PE.i (0 : Nat))] : List PE)))) = (Vector.toList (Vector.setIfInBounds (Vector.replicate (32 : Nat) (0 : UInt8)) (0 : Nat) (1 : UInt8))))) else false) true) (condP (eqb (bif true then (decide ((wayE (hOfs ([(PV.arr EK.u8 (32 : Nat) (Vector.setIfInBounds (Vector.replicate (32 : Nat) (0 : UInt8)) (0 : Nat) (1 : UInt8))), (PV.arr EK.u8 (32 : Nat) (Vector.setIfInBounds (Vector.replicate (32 : Nat) (0 : UInt8)) (0 : Nat) (2 : UInt8))), (PV.arr EK.u8 (32 : Nat) (Vector.setIfInBounds (Vector.replicate (32 : Nat) (0 : UInt8)) (0 : Nat) (1 : UInt8)))] : List PV)) (2 : Int)) = (0 : Int))) else false) true) (Q (law09_works_enc (bif true then (decide ((wayE (hOfs ([(PV.arr EK.u8 (32 : Nat) (Vector.setIfInBounds (Vector.replicate (32 : Nat) (0 : UInt8)) (0 : Nat) (1 : UInt8))), (PV.arr EK.u8 (32 : Nat) (Vector.setIfInBounds (Vector.replicate (32 : Nat) (0 : UInt8)) (0 : Nat) (2 : UInt8))), (PV.arr EK.u8 (32 : Nat) (Vector.setIfInBounds (Vector.replicate (32 : Nat) (0 : UInt8)) (0 : Nat) (1 : UInt8)))] : List PV)) (3 : Int)) = (2 : Int))) else false))) (Q (law09_works_enc false))) (Q (law09_works_enc false))))) (Q (law09_works_enc false))) (Q (law09_works_enc false))) (Q (law09_works_enc false))) (Q (law09_works_enc false))) (Q (law09_works_enc false))) (Q (law09_works_enc false))))))))) := by kernel_rfl
theorem law09_works_w  {r} {Q : CallOut → Prop} (h : law09_works  = some r) (hQ : Q (law09_works_enc r)) : evalFnP law09_works_C law09_works_lv law09_works_r law09_works_hs law09_works_b [] [] Q :=
  Eq.mpr (law09_works_e  Q) (have h := (law09_works_q ).symm.trans h; ⟨by decide +kernel, ⟨by decide +kernel, ⟨by decide +kernel, ⟨by decide +kernel, ⟨by decide +kernel, ⟨by decide +kernel, cond_ok h (fun h => cond_ok h (fun h => cond_ok h (fun h => cond_ok h (fun h => cond_ok h (fun h => cond_ok h (fun h => ite_ok h fun hc0 h => ite_ok h fun hc1 h => cond_ok h (fun h => cond_ok h (fun h => ret_ok (Q := Q) (e := law09_works_enc) h hQ) (fun h => ret_ok (Q := Q) (e := law09_works_enc) h hQ)) (fun h => ret_ok (Q := Q) (e := law09_works_enc) h hQ)) (fun h => ret_ok (Q := Q) (e := law09_works_enc) h hQ)) (fun h => ret_ok (Q := Q) (e := law09_works_enc) h hQ)) (fun h => ret_ok (Q := Q) (e := law09_works_enc) h hQ)) (fun h => ret_ok (Q := Q) (e := law09_works_enc) h hQ)) (fun h => ret_ok (Q := Q) (e := law09_works_enc) h hQ)) (fun h => ret_ok (Q := Q) (e := law09_works_enc) h hQ)⟩⟩⟩⟩⟩⟩)
def law09_works_c : Ans
  | [], [] => some (none, law09_works_enc (true))
  | _, _ => none
theorem law09_works_tok : TblOK Tryd.prog theG law09_works_T := .cons ⟨by kernel_rfl, merkle_Root_ok⟩ (.cons ⟨by kernel_rfl, merkle_Way_ok⟩ (.nil))
theorem law09_works_ok : FnOK Tryd.prog theG 12 (unW law09_works_c) := by
  refine FnOK.ofC (T := law09_works_T) (nt := 95) (np := 0) (nf := false) (hs := law09_works_hs) (fn := Tryd.f12) (body := law09_works_b) law09_works_tok (by kernel_rfl) (by kernel_rfl) (by kernel_rfl) (by kernel_rfl) (c := law09_works_c) (lv := law09_works_lv) ?_
  intro xs mem p out h hp
  unfold law09_works_c at h
  split at h
  · cases h
    exact law09_works_w  law09_works_spec rfl
  · cases h
end
end Go.Proofs.YtbdajagcinfeeaaDoor.M
