/- Part of the proofs: what functions of the program do: plain functions, and the walks that show it. No condition. -/
import Derived.KernelRfl
import Derived.Test.YtbdajagcinfeeaaDoorProg
import Derived.Test.YtbdajagcinfeeaaDoorLe
import Derived.Test.YtbdajagcinfeeaaDoorFhead
import Derived.Test.YtbdajagcinfeeaaDoorSwords
import Derived.Test.YtbdajagcinfeeaaDoorSshaS
import Derived.Test.YtbdajagcinfeeaaDoorSbigS
import Derived.Test.YtbdajagcinfeeaaDoorSendS
import Derived.Test.YtbdajagcinfeeaaDoorStarS
import Derived.Test.YtbdajagcinfeeaaDoorSheadS
import Derived.Test.YtbdajagcinfeeaaDoorSshaK
set_option linter.unusedVariables false
set_option linter.unusedSimpArgs false
set_option autoImplicit false
namespace Go.Proofs.YtbdajagcinfeeaaDoor.M
open Go
noncomputable section
/-- moneyer/moneyerlaw08.works -/
def law08_works  : Bool :=
  bif eqb (decide ((((List.length (headB (Vector.replicate (32 : Nat) (0 : UInt8)) (Vector.replicate (32 : Nat) (0 : UInt8)) (0 : UInt32) (0 : UInt32) (0 : UInt32))) : Nat) : Int) = (76 : Int))) true then (bif eqb (bif true then (decide ((rdE (List.replicate (75 : Nat) (0 : UInt8))) = (4 : Int))) else false) true then (bif eqb (bif true then (decide ((rdE (List.replicate (77 : Nat) (0 : UInt8))) = (5 : Int))) else false) true then (bif eqb (bif true then (decide ((mnE (Vector.replicate (32 : Nat) (0 : UInt8)) (Vector.replicate (32 : Nat) (0 : UInt8)) (0 : UInt32) (0 : UInt32) (0 : UInt32) (5 : UInt32)) = (5 : Int))) else false) true then (true)
          else (false))
        else (false))
      else (false))
    else (false)
theorem law08_works_q  : law08_works  = (bif eqb (decide ((((List.length (headB (Vector.replicate (32 : Nat) (0 : UInt8)) (Vector.replicate (32 : Nat) (0 : UInt8)) (0 : UInt32) (0 : UInt32) (0 : UInt32))) : Nat) : Int) = (76 : Int))) true then (bif eqb (bif true then (decide ((rdE (List.replicate (75 : Nat) (0 : UInt8))) = (4 : Int))) else false) true then (bif eqb (bif true then (decide ((rdE (List.replicate (77 : Nat) (0 : UInt8))) = (5 : Int))) else false) true then (bif eqb (bif true then (decide ((mnE (Vector.replicate (32 : Nat) (0 : UInt8)) (Vector.replicate (32 : Nat) (0 : UInt8)) (0 : UInt32) (0 : UInt32) (0 : UInt32) (5 : UInt32)) = (5 : Int))) else false) true then (true)
          else (false))
        else (false))
      else (false))
    else (false)) := by kernel_rfl
theorem rd_75 : rdE (List.replicate 75 0) = 4 := by
  have e : partE (List.replicate 75 0) 0 76 = 4 := by rw [partE_eq, if_neg (by simp), if_pos (by simp)]
  rw [rdE_eq, e]
  rfl
theorem rd_77 : rdE (List.replicate 77 0) = 5 := by
  have e : partE (List.replicate 77 0) 0 76 = 0 := by rw [partE_eq, if_neg (by simp), if_neg (by simp)]
  rw [rdE_eq, e, if_pos ⟨rfl, by simp⟩]
theorem ofE_0 : ofE 0 ≠ 0 := by
  rw [ofE_eq, if_neg]
  · decide
  · intro h
    exact h.2.2.1 (by decide)
theorem law08_works_spec : law08_works = true := by
  have h : mnE (Vector.replicate 32 0) (Vector.replicate 32 0) 0 0 0 5 = 5 := by rw [mnE_eq, if_neg ofE_0]
  rw [law08_works_q, headB_len, rd_75, rd_77, h]
  rfl

end
end Go.Proofs.YtbdajagcinfeeaaDoor.M

namespace Go.Proofs.YtbdajagcinfeeaaDoor.M
open Go
noncomputable section
set_option maxRecDepth 100000
set_option maxHeartbeats 0
noncomputable def law08_works_T : Tbl := [(30, [], head_Read_c), (32, [], head_Mine_c), (21, [], head_Put_c), (48, [], head_Begin_c)]
noncomputable def law08_works_C : CfgW := mkC Tryd.prog theG law08_works_T 43 0 false
def law08_works_lv : Nat → List Nat := fun i => []
noncomputable abbrev law08_works_b : Code := Tryd.f27.body.getD .skip
noncomputable abbrev law08_works_r : List ResultVar := Tryd.f27.results.toList
def law08_works_hs : List Nat := []

def law08_works_enc (r : Bool) : CallOut := ⟨.pv (.sc .b r), [], true, []⟩
theorem law08_works_e  (Q : CallOut → Prop) : evalFnP law08_works_C law08_works_lv law08_works_r law08_works_hs law08_works_b [] [] Q =
    ((((0 : Int) ≤ (75 : Int)) ∧ (((75 : Int) ≤ (75 : Int)) ∧ ((((75 : Int) * (((1 : Nat) : Nat) : Int)) ≤ (((70368744177664 : Nat) : Nat) : Int)) ∧ ((75 : Int) ≤ ((2 : Int) ^ (62 : Nat)))))) ∧ (((List.length (List.replicate (75 : Nat) (0 : UInt8))) ≤ (140737488351232 : Nat)) ∧ ((((0 : Int) ≤ (77 : Int)) ∧ (((77 : Int) ≤ (77 : Int)) ∧ ((((77 : Int) * (((1 : Nat) : Nat) : Int)) ≤ (((70368744177664 : Nat) : Nat) : Int)) ∧ ((77 : Int) ≤ ((2 : Int) ^ (62 : Nat)))))) ∧ (((List.length (List.replicate (77 : Nat) (0 : UInt8))) ≤ (140737488351232 : Nat)) ∧ (condP (eqb (decide ((((List.length (headB (Vector.replicate (32 : Nat) (0 : UInt8)) (Vector.replicate (32 : Nat) (0 : UInt8)) (0 : UInt32) (0 : UInt32) (0 : UInt32))) : Nat) : Int) = (76 : Int))) true) (condP (eqb (bif true then (decide ((rdE (List.replicate (75 : Nat) (0 : UInt8))) = (4 : Int))) else false) true) (condP (eqb (bif true then (decide ((rdE (List.replicate (77 : Nat) (0 : UInt8))) = (5 : Int))) else false) true) (condP (eqb (bif true then (decide ((mnE (Vector.replicate (32 : Nat) (0 : UInt8)) (Vector.replicate (32 : Nat) (0 : UInt8)) (0 : UInt32) (0 : UInt32) (0 : UInt32) (5 : UInt32)) = (5 : Int))) else false) true) (Q (law08_works_enc true)) (Q (law08_works_enc false))) (Q (law08_works_enc false))) (Q (law08_works_enc false))) (Q (law08_works_enc false))))))) := by kernel_rfl
theorem law08_works_w  {Q : CallOut → Prop} (h : Q (law08_works_enc (law08_works ))) : evalFnP law08_works_C law08_works_lv law08_works_r law08_works_hs law08_works_b [] [] Q :=
  Eq.mpr (law08_works_e  Q) (have h := Eq.mp (congrArg (fun r => Q (law08_works_enc r)) (law08_works_q )) h; ⟨by decide +kernel, ⟨by decide +kernel, ⟨by decide +kernel, ⟨by decide +kernel, cond_ok2 (Q := fun r => Q (law08_works_enc r)) h (fun h => cond_ok2 (Q := fun r => Q (law08_works_enc r)) h (fun h => cond_ok2 (Q := fun r => Q (law08_works_enc r)) h (fun h => cond_ok2 (Q := fun r => Q (law08_works_enc r)) h (fun h => h) (fun h => h)) (fun h => h)) (fun h => h)) (fun h => h)⟩⟩⟩⟩)
def law08_works_c : Ans
  | [], [] => some (none, law08_works_enc (true))
  | _, _ => none
theorem law08_works_tok : TblOK Tryd.prog theG law08_works_T := .cons ⟨by kernel_rfl, head_Read_ok⟩ (.cons ⟨by kernel_rfl, head_Mine_ok⟩ (.cons ⟨by kernel_rfl, head_Put_ok⟩ (.cons ⟨by kernel_rfl, head_Begin_ok⟩ (.nil))))
theorem law08_works_ok : FnOK Tryd.prog theG 27 (unW law08_works_c) := by
  refine FnOK.ofC (T := law08_works_T) (nt := 43) (np := 0) (mv := []) (nf := false) (hs := law08_works_hs) (fn := Tryd.f27) (body := law08_works_b) law08_works_tok (by kernel_rfl) (by kernel_rfl) (by kernel_rfl) (by kernel_rfl) (c := law08_works_c) (lv := law08_works_lv) ?_
  intro xs mem p out h hp
  unfold law08_works_c at h
  split at h
  · cases h
    exact law08_works_w  (congrArg law08_works_enc (law08_works_spec))
  · cases h
end
end Go.Proofs.YtbdajagcinfeeaaDoor.M
