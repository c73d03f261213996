/- Part of the proofs: what functions of the program do: plain functions, and the walks that show it. No condition. -/
import Derived.KernelRfl
import Derived.Test.YtkjillpcmffgoaaDoorProg
import Derived.Test.YtkjillpcmffgoaaDoorLd
import Derived.Test.YtkjillpcmffgoaaDoorFsha
import Derived.Test.YtkjillpcmffgoaaDoorSwords
import Derived.Test.YtkjillpcmffgoaaDoorSshaS
import Derived.Test.YtkjillpcmffgoaaDoorSshaK
set_option linter.unusedVariables false
set_option linter.unusedSimpArgs false
set_option autoImplicit false
namespace Go.Proofs.YtkjillpcmffgoaaDoor.M
open Go
noncomputable section
/-- moneyer/moneyerlaw02.works -/
def law02_works  : Bool :=
  bif eqb (decide ((List.getD (Vector.toList (shaSum ([] : List UInt8))) (0 : Nat) (0 : UInt8)) = (227 : UInt8))) true then (bif eqb (bif true then (decide ((List.getD (Vector.toList (shaSum ([] : List UInt8))) (1 : Nat) (0 : UInt8)) = (176 : UInt8))) else false) true then (bif eqb (bif true then (decide ((List.getD (Vector.toList (shaSum ([] : List UInt8))) (2 : Nat) (0 : UInt8)) = (196 : UInt8))) else false) true then (bif eqb (bif true then (decide ((List.getD (Vector.toList (shaSum ([] : List UInt8))) (3 : Nat) (0 : UInt8)) = (66 : UInt8))) else false) true then (bif eqb (bif true then (decide ((List.getD (Vector.toList (shaSum ([(97 : UInt8), (98 : UInt8), (99 : UInt8)] : List UInt8))) (0 : Nat) (0 : UInt8)) = (186 : UInt8))) else false) true then (bif eqb (bif true then (decide ((List.getD (Vector.toList (shaSum ([(97 : UInt8), (98 : UInt8), (99 : UInt8)] : List UInt8))) (1 : Nat) (0 : UInt8)) = (120 : UInt8))) else false) true then (bif eqb (bif true then (decide ((List.getD (Vector.toList (shaSum ([(97 : UInt8), (98 : UInt8), (99 : UInt8)] : List UInt8))) (2 : Nat) (0 : UInt8)) = (22 : UInt8))) else false) true then (bif eqb (bif true then (decide ((List.getD (Vector.toList (shaSum ([(97 : UInt8), (98 : UInt8), (99 : UInt8)] : List UInt8))) (3 : Nat) (0 : UInt8)) = (191 : UInt8))) else false) true then (true)
                  else (false))
                else (false))
              else (false))
            else (false))
          else (false))
        else (false))
      else (false))
    else (false)
theorem law02_works_q  : law02_works  = (bif eqb (decide ((List.getD (Vector.toList (shaSum ([] : List UInt8))) (0 : Nat) (0 : UInt8)) = (227 : UInt8))) true then (bif eqb (bif true then (decide ((List.getD (Vector.toList (shaSum ([] : List UInt8))) (1 : Nat) (0 : UInt8)) = (176 : UInt8))) else false) true then (bif eqb (bif true then (decide ((List.getD (Vector.toList (shaSum ([] : List UInt8))) (2 : Nat) (0 : UInt8)) = (196 : UInt8))) else false) true then (bif eqb (bif true then (decide ((List.getD (Vector.toList (shaSum ([] : List UInt8))) (3 : Nat) (0 : UInt8)) = (66 : UInt8))) else false) true then (bif eqb (bif true then (decide ((List.getD (Vector.toList (shaSum ([(97 : UInt8), (98 : UInt8), (99 : UInt8)] : List UInt8))) (0 : Nat) (0 : UInt8)) = (186 : UInt8))) else false) true then (bif eqb (bif true then (decide ((List.getD (Vector.toList (shaSum ([(97 : UInt8), (98 : UInt8), (99 : UInt8)] : List UInt8))) (1 : Nat) (0 : UInt8)) = (120 : UInt8))) else false) true then (bif eqb (bif true then (decide ((List.getD (Vector.toList (shaSum ([(97 : UInt8), (98 : UInt8), (99 : UInt8)] : List UInt8))) (2 : Nat) (0 : UInt8)) = (22 : UInt8))) else false) true then (bif eqb (bif true then (decide ((List.getD (Vector.toList (shaSum ([(97 : UInt8), (98 : UInt8), (99 : UInt8)] : List UInt8))) (3 : Nat) (0 : UInt8)) = (191 : UInt8))) else false) true then (true)
                  else (false))
                else (false))
              else (false))
            else (false))
          else (false))
        else (false))
      else (false))
    else (false)) := by kernel_rfl
def shFold (p : List UInt8) : Nat → Vector UInt32 8
  | 0 => shaInit
  | n + 1 => shRound shaK (shFold p n) (fun j => p.getD (64 * n + j) 0)
theorem shFold_eq (p : List UInt8) : ∀ n, shaFold p n = shFold p n
  | 0 => rfl
  | n + 1 => by rw [shaFold, shaRound_eq, shFold_eq p n]; rfl
theorem shaSum_nil : shaSum [] = #v[227, 176, 196, 66, 152, 252, 28, 20, 154, 251, 244, 200, 153, 111, 185, 36, 39, 174, 65, 228, 100, 155, 147, 76, 164, 149, 153, 27, 120, 82, 184, 85] := by rw [shaSum_eq, shFold_eq]; decide +kernel
theorem shaSum_abc : shaSum [97, 98, 99] = #v[186, 120, 22, 191, 143, 1, 207, 234, 65, 65, 64, 222, 93, 174, 34, 35, 176, 3, 97, 163, 150, 23, 122, 156, 180, 16, 255, 97, 242, 0, 21, 173] := by rw [shaSum_eq, shFold_eq]; decide +kernel
theorem law02_works_spec : law02_works = true := by
  rw [law02_works_q, shaSum_nil, shaSum_abc]
  rfl

end
end Go.Proofs.YtkjillpcmffgoaaDoor.M

namespace Go.Proofs.YtkjillpcmffgoaaDoor.M
open Go
noncomputable section
set_option maxRecDepth 100000
noncomputable def law02_works_T : Tbl := [(19, [], sha_Sum_c), (18, [], sha_Padded_c)]
noncomputable def law02_works_C : CfgW := mkC Tryd.prog theG law02_works_T 56 0
def law02_works_lv : Nat → List Nat := fun i => []
noncomputable abbrev law02_works_b : Code := Tryd.f17.body.getD .skip
noncomputable abbrev law02_works_r : List ResultVar := Tryd.f17.results.toList
def law02_works_hs : List Nat := []

def law02_works_enc (r : Bool) : CallOut := ⟨.pv (.sc .b r), [], true, []⟩
theorem law02_works_e  (Q : CallOut → Prop) : evalFnP law02_works_C law02_works_lv law02_works_r law02_works_hs law02_works_b [] [] Q =
    (((List.length ([] : List UInt8)) ≤ (1099511627776 : Nat)) ∧ (((List.length ([(97 : UInt8), (98 : UInt8), (99 : UInt8)] : List UInt8)) ≤ (1099511627776 : Nat)) ∧ ((((0 : Int) ≤ (0 : Int)) ∧ ((0 : Int) < (32 : Int))) ∧ (condP (eqb (decide ((List.getD (Vector.toList (shaSum ([] : List UInt8))) (0 : Nat) (0 : UInt8)) = (227 : UInt8))) true) ((((0 : Int) ≤ (1 : Int)) ∧ ((1 : Int) < (32 : Int))) ∧ (condP (eqb (bif true then (decide ((List.getD (Vector.toList (shaSum ([] : List UInt8))) (1 : Nat) (0 : UInt8)) = (176 : UInt8))) else false) true) ((((0 : Int) ≤ (2 : Int)) ∧ ((2 : Int) < (32 : Int))) ∧ (condP (eqb (bif true then (decide ((List.getD (Vector.toList (shaSum ([] : List UInt8))) (2 : Nat) (0 : UInt8)) = (196 : UInt8))) else false) true) ((((0 : Int) ≤ (3 : Int)) ∧ ((3 : Int) < (32 : Int))) ∧ (condP (eqb (bif true then (decide ((List.getD (Vector.toList (shaSum ([] : List UInt8))) (3 : Nat) (0 : UInt8)) = (66 : UInt8))) else false) true) ((((0 : Int) ≤ (0 : Int)) ∧ ((0 : Int) < (32 : Int))) ∧ (condP (eqb (bif true then (decide ((List.getD (Vector.toList (shaSum ([(97 : UInt8), (98 : UInt8), (99 : UInt8)] : List UInt8))) (0 : Nat) (0 : UInt8)) = (186 : UInt8))) else false) true) ((((0 : Int) ≤ (1 : Int)) ∧ ((1 : Int) < (32 : Int))) ∧ (condP (eqb (bif true then (decide ((List.getD (Vector.toList (shaSum ([(97 : UInt8), (98 : UInt8), (99 : UInt8)] : List UInt8))) (1 : Nat) (0 : UInt8)) = (120 : UInt8))) else false) true) ((((0 : Int) ≤ (2 : Int)) ∧ ((2 : Int) < (32 : Int))) ∧ (condP (eqb (bif true then (decide ((List.getD (Vector.toList (shaSum ([(97 : UInt8), (98 : UInt8), (99 : UInt8)] : List UInt8))) (2 : Nat) (0 : UInt8)) = (22 : UInt8))) else false) true) ((((0 : Int) ≤ (3 : Int)) ∧ ((3 : Int) < (32 : Int))) ∧ (condP (eqb (bif true then (decide ((List.getD (Vector.toList (shaSum ([(97 : UInt8), (98 : UInt8), (99 : UInt8)] : List UInt8))) (3 : Nat) (0 : UInt8)) = (191 : UInt8))) else false) true) (((List.length ([] : List UInt8)) ≤ (1099511627776 : Nat)) ∧ ((((0 : Int) ≤ (56 : Int)) ∧ (((56 : Int) ≤ (56 : Int)) ∧ ((((56 : Int) * (((1 : Nat) : Nat) : Int)) ≤ (((70368744177664 : Nat) : Nat) : Int)) ∧ ((56 : Int) ≤ ((2 : Int) ^ (62 : Nat)))))) ∧ (((List.length (List.replicate (56 : Nat) (0 : UInt8))) ≤ (1099511627776 : Nat)) ∧ (Q (law02_works_enc true))))) (Q (law02_works_enc false)))) (Q (law02_works_enc false)))) (Q (law02_works_enc false)))) (Q (law02_works_enc false)))) (Q (law02_works_enc false)))) (Q (law02_works_enc false)))) (Q (law02_works_enc false)))) (Q (law02_works_enc false)))))) := by kernel_rfl
theorem law02_works_w  {Q : CallOut → Prop} (h : Q (law02_works_enc (law02_works ))) : evalFnP law02_works_C law02_works_lv law02_works_r law02_works_hs law02_works_b [] [] Q :=
  Eq.mpr (law02_works_e  Q) (have h := Eq.mp (congrArg (fun r => Q (law02_works_enc r)) (law02_works_q )) h; ⟨by decide +kernel, ⟨by decide +kernel, ⟨by decide +kernel, cond_ok2 (Q := fun r => Q (law02_works_enc r)) h (fun h => ⟨by decide +kernel, cond_ok2 (Q := fun r => Q (law02_works_enc r)) h (fun h => ⟨by decide +kernel, cond_ok2 (Q := fun r => Q (law02_works_enc r)) h (fun h => ⟨by decide +kernel, cond_ok2 (Q := fun r => Q (law02_works_enc r)) h (fun h => ⟨by decide +kernel, cond_ok2 (Q := fun r => Q (law02_works_enc r)) h (fun h => ⟨by decide +kernel, cond_ok2 (Q := fun r => Q (law02_works_enc r)) h (fun h => ⟨by decide +kernel, cond_ok2 (Q := fun r => Q (law02_works_enc r)) h (fun h => ⟨by decide +kernel, cond_ok2 (Q := fun r => Q (law02_works_enc r)) h (fun h => ⟨by decide +kernel, ⟨by decide +kernel, ⟨by decide +kernel, h⟩⟩⟩) (fun h => h)⟩) (fun h => h)⟩) (fun h => h)⟩) (fun h => h)⟩) (fun h => h)⟩) (fun h => h)⟩) (fun h => h)⟩) (fun h => h)⟩⟩⟩)
def law02_works_c : Ans
  | [], [] => some (none, law02_works_enc (true))
  | _, _ => none
theorem law02_works_tok : TblOK Tryd.prog theG law02_works_T := .cons ⟨by kernel_rfl, sha_Sum_ok⟩ (.cons ⟨by kernel_rfl, sha_Padded_ok⟩ (.nil))
theorem law02_works_ok : FnOK Tryd.prog theG 17 (unW law02_works_c) := by
  refine FnOK.ofC (T := law02_works_T) (nt := 56) (np := 0) (hs := law02_works_hs) (fn := Tryd.f17) (body := law02_works_b) law02_works_tok (by kernel_rfl) (by kernel_rfl) (by kernel_rfl) (by kernel_rfl) (c := law02_works_c) (lv := law02_works_lv) ?_
  intro xs mem p out h hp
  unfold law02_works_c at h
  split at h
  · cases h
    exact law02_works_w  (congrArg law02_works_enc (law02_works_spec))
  · cases h
end
end Go.Proofs.YtkjillpcmffgoaaDoor.M
