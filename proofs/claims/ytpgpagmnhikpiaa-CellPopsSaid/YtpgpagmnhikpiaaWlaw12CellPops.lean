/- The statement of CellPops: for every input the law returns true, and each argument reads behind the call as it read before. No condition. -/
import Derived.KernelRfl
import Derived.Test.YtpgpagmnhikpiaaProg
import Derived.Test.YtpgpagmnhikpiaaRows
import Derived.WalkKit
import Derived.ProofKit
import Derived.Handy
import Derived.Lay
import Derived.SizedLaws
import Derived.SevenTiedAt
import Derived.Test.YtpgpagmnhikpiaaLd
import Derived.Test.YtpgpagmnhikpiaaFlaw12
import Derived.Test.YtpgpagmnhikpiaaFcell
import Derived.Test.YtpgpagmnhikpiaaFref12
import Derived.Test.YtpgpagmnhikpiaaFref00
import Derived.Test.YtpgpagmnhikpiaaSwords
import Derived.Test.YtpgpagmnhikpiaaScellS
import Derived.Test.YtpgpagmnhikpiaaScellF
set_option linter.unusedVariables false
set_option linter.unusedSimpArgs false
set_option autoImplicit false
namespace Go.Proofs.Ytpgpagmnhikpiaa.M
open Go
noncomputable section
/-- moneyer/moneyerlaw12.CellPops -/
def law12_CellPops (l : List PV) (b : List UInt8) (n : UInt8) : Option (Bool) :=
  if (cellsW l) = true then
    bif eqb (greatS l) false then (bif bif false then true else (decide ((4000 : Int) < (((List.length b) : Nat) : Int))) then (some law12_lives)
        else (if (cellsB l) = true then
          bif decide ((Prod.fst (pushS l b)) = (0 : Int)) then (if ((cellsB (Prod.snd (pushS l b))) = true) ∧ (I64 (1 : Int)) then
              bif eqb (!(decide ((Prod.fst (popS (Prod.snd (pushS l b)) (1 : Int))) = (0 : Int)))) false then (if ((cellsB (Prod.fst (Prod.snd (popS (Prod.snd (pushS l b)) (1 : Int))))) = true) ∧ ((cellsB l) = true) then
                  bif eqb (bif false then true else (!(decide ((List.map cellOf (Prod.fst (Prod.snd (popS (Prod.snd (pushS l b)) (1 : Int))))) = (List.map cellOf l))))) false then (bif eqb (bif false then true else (!(decide ((((List.length (Prod.snd (Prod.snd (popS (Prod.snd (pushS l b)) (1 : Int))))) : Nat) : Int) = (1 : Int))))) false then (if ((0 : Int) ≤ (0 : Int)) ∧ ((0 : Int) < (((List.length (Prod.snd (Prod.snd (popS (Prod.snd (pushS l b)) (1 : Int))))) : Nat) : Int)) then
                        if (TY.chk (TY.sl EK.u8) (RC.get (RC.p (1 : Nat) (Prod.snd (Prod.snd (popS (Prod.snd (pushS l b)) (1 : Int))))) ([(PE.i (0 : Nat))] : List PE))) = true then
                          if (List.length (PV.slv EK.u8 (RC.get (RC.p (1 : Nat) (Prod.snd (Prod.snd (popS (Prod.snd (pushS l b)) (1 : Int))))) ([(PE.i (0 : Nat))] : List PE)))) ≤ (1152921504606846976 : Nat) then
                            bif bif false then true else (!(decide ((PV.slv EK.u8 (RC.get (RC.p (1 : Nat) (Prod.snd (Prod.snd (popS (Prod.snd (pushS l b)) (1 : Int))))) ([(PE.i (0 : Nat))] : List PE))) = b))) then (some false)
                              else (if ((cellsB l) = true) ∧ (I64 (((UInt8.toNat n) : Nat) : Int)) then
                                bif !(decide ((Prod.fst (popS l (((UInt8.toNat n) : Nat) : Int))) = (0 : Int))) then (bif eqb (decide ((((List.length l) : Nat) : Int) < (((UInt8.toNat n) : Nat) : Int))) true then (some true)
                                    else (some false))
                                  else (if (((List.length (([] : List PV) ++ (Prod.fst (Prod.snd (popS l (((UInt8.toNat n) : Nat) : Int)))))) * (24 : Nat)) ≤ (70368744177664 : Nat)) ∧ ((List.length (([] : List PV) ++ (Prod.fst (Prod.snd (popS l (((UInt8.toNat n) : Nat) : Int)))))) ≤ (70368744177664 : Nat)) then
                                    if (((List.length ((([] : List PV) ++ (Prod.fst (Prod.snd (popS l (((UInt8.toNat n) : Nat) : Int))))) ++ (Prod.snd (Prod.snd (popS l (((UInt8.toNat n) : Nat) : Int)))))) * (24 : Nat)) ≤ (70368744177664 : Nat)) ∧ ((List.length ((([] : List PV) ++ (Prod.fst (Prod.snd (popS l (((UInt8.toNat n) : Nat) : Int))))) ++ (Prod.snd (Prod.snd (popS l (((UInt8.toNat n) : Nat) : Int)))))) ≤ (70368744177664 : Nat)) then
                                      if ((cellsB ((([] : List PV) ++ (Prod.fst (Prod.snd (popS l (((UInt8.toNat n) : Nat) : Int))))) ++ (Prod.snd (Prod.snd (popS l (((UInt8.toNat n) : Nat) : Int)))))) = true) ∧ ((cellsB l) = true) then
                                        bif eqb (decide ((List.map cellOf ((([] : List PV) ++ (Prod.fst (Prod.snd (popS l (((UInt8.toNat n) : Nat) : Int))))) ++ (Prod.snd (Prod.snd (popS l (((UInt8.toNat n) : Nat) : Int)))))) = (List.map cellOf l))) true then (some true)
                                          else (some false)
                                      else none
                                    else none
                                  else none)
                              else none)
                          else none
                        else none
                      else none)
                      else (some false))
                    else (some false)
                else none)
                else (some false)
            else none)
            else (if ((cellsB l) = true) ∧ (I64 (((UInt8.toNat n) : Nat) : Int)) then
              bif !(decide ((Prod.fst (popS l (((UInt8.toNat n) : Nat) : Int))) = (0 : Int))) then (bif eqb (decide ((((List.length l) : Nat) : Int) < (((UInt8.toNat n) : Nat) : Int))) true then (some true)
                  else (some false))
                else (if (((List.length (([] : List PV) ++ (Prod.fst (Prod.snd (popS l (((UInt8.toNat n) : Nat) : Int)))))) * (24 : Nat)) ≤ (70368744177664 : Nat)) ∧ ((List.length (([] : List PV) ++ (Prod.fst (Prod.snd (popS l (((UInt8.toNat n) : Nat) : Int)))))) ≤ (70368744177664 : Nat)) then
                  if (((List.length ((([] : List PV) ++ (Prod.fst (Prod.snd (popS l (((UInt8.toNat n) : Nat) : Int))))) ++ (Prod.snd (Prod.snd (popS l (((UInt8.toNat n) : Nat) : Int)))))) * (24 : Nat)) ≤ (70368744177664 : Nat)) ∧ ((List.length ((([] : List PV) ++ (Prod.fst (Prod.snd (popS l (((UInt8.toNat n) : Nat) : Int))))) ++ (Prod.snd (Prod.snd (popS l (((UInt8.toNat n) : Nat) : Int)))))) ≤ (70368744177664 : Nat)) then
                    if ((cellsB ((([] : List PV) ++ (Prod.fst (Prod.snd (popS l (((UInt8.toNat n) : Nat) : Int))))) ++ (Prod.snd (Prod.snd (popS l (((UInt8.toNat n) : Nat) : Int)))))) = true) ∧ ((cellsB l) = true) then
                      bif eqb (decide ((List.map cellOf ((([] : List PV) ++ (Prod.fst (Prod.snd (popS l (((UInt8.toNat n) : Nat) : Int))))) ++ (Prod.snd (Prod.snd (popS l (((UInt8.toNat n) : Nat) : Int)))))) = (List.map cellOf l))) true then (some true)
                        else (some false)
                    else none
                  else none
                else none)
            else none)
        else none))
      else (some law12_lives)
  else none
theorem law12_CellPops_q (l : List PV) (b : List UInt8) (n : UInt8) : law12_CellPops l b n = (if (cellsW l) = true then
    bif eqb (greatS l) false then (bif bif false then true else (decide ((4000 : Int) < (((List.length b) : Nat) : Int))) then (some law12_lives)
        else (if (cellsB l) = true then
          bif decide ((Prod.fst (pushS l b)) = (0 : Int)) then (if ((cellsB (Prod.snd (pushS l b))) = true) ∧ (I64 (1 : Int)) then
              bif eqb (!(decide ((Prod.fst (popS (Prod.snd (pushS l b)) (1 : Int))) = (0 : Int)))) false then (if ((cellsB (Prod.fst (Prod.snd (popS (Prod.snd (pushS l b)) (1 : Int))))) = true) ∧ ((cellsB l) = true) then
                  bif eqb (bif false then true else (!(decide ((List.map cellOf (Prod.fst (Prod.snd (popS (Prod.snd (pushS l b)) (1 : Int))))) = (List.map cellOf l))))) false then (bif eqb (bif false then true else (!(decide ((((List.length (Prod.snd (Prod.snd (popS (Prod.snd (pushS l b)) (1 : Int))))) : Nat) : Int) = (1 : Int))))) false then (if ((0 : Int) ≤ (0 : Int)) ∧ ((0 : Int) < (((List.length (Prod.snd (Prod.snd (popS (Prod.snd (pushS l b)) (1 : Int))))) : Nat) : Int)) then
                        if (TY.chk (TY.sl EK.u8) (RC.get (RC.p (1 : Nat) (Prod.snd (Prod.snd (popS (Prod.snd (pushS l b)) (1 : Int))))) ([(PE.i (0 : Nat))] : List PE))) = true then
                          if (List.length (PV.slv EK.u8 (RC.get (RC.p (1 : Nat) (Prod.snd (Prod.snd (popS (Prod.snd (pushS l b)) (1 : Int))))) ([(PE.i (0 : Nat))] : List PE)))) ≤ (1152921504606846976 : Nat) then
                            bif bif false then true else (!(decide ((PV.slv EK.u8 (RC.get (RC.p (1 : Nat) (Prod.snd (Prod.snd (popS (Prod.snd (pushS l b)) (1 : Int))))) ([(PE.i (0 : Nat))] : List PE))) = b))) then (some false)
                              else (if ((cellsB l) = true) ∧ (I64 (((UInt8.toNat n) : Nat) : Int)) then
                                bif !(decide ((Prod.fst (popS l (((UInt8.toNat n) : Nat) : Int))) = (0 : Int))) then (bif eqb (decide ((((List.length l) : Nat) : Int) < (((UInt8.toNat n) : Nat) : Int))) true then (some true)
                                    else (some false))
                                  else (if (((List.length (([] : List PV) ++ (Prod.fst (Prod.snd (popS l (((UInt8.toNat n) : Nat) : Int)))))) * (24 : Nat)) ≤ (70368744177664 : Nat)) ∧ ((List.length (([] : List PV) ++ (Prod.fst (Prod.snd (popS l (((UInt8.toNat n) : Nat) : Int)))))) ≤ (70368744177664 : Nat)) then
                                    if (((List.length ((([] : List PV) ++ (Prod.fst (Prod.snd (popS l (((UInt8.toNat n) : Nat) : Int))))) ++ (Prod.snd (Prod.snd (popS l (((UInt8.toNat n) : Nat) : Int)))))) * (24 : Nat)) ≤ (70368744177664 : Nat)) ∧ ((List.length ((([] : List PV) ++ (Prod.fst (Prod.snd (popS l (((UInt8.toNat n) : Nat) : Int))))) ++ (Prod.snd (Prod.snd (popS l (((UInt8.toNat n) : Nat) : Int)))))) ≤ (70368744177664 : Nat)) then
                                      if ((cellsB ((([] : List PV) ++ (Prod.fst (Prod.snd (popS l (((UInt8.toNat n) : Nat) : Int))))) ++ (Prod.snd (Prod.snd (popS l (((UInt8.toNat n) : Nat) : Int)))))) = true) ∧ ((cellsB l) = true) then
                                        bif eqb (decide ((List.map cellOf ((([] : List PV) ++ (Prod.fst (Prod.snd (popS l (((UInt8.toNat n) : Nat) : Int))))) ++ (Prod.snd (Prod.snd (popS l (((UInt8.toNat n) : Nat) : Int)))))) = (List.map cellOf l))) true then (some true)
                                          else (some false)
                                      else none
                                    else none
                                  else none)
                              else none)
                          else none
                        else none
                      else none)
                      else (some false))
                    else (some false)
                else none)
                else (some false)
            else none)
            else (if ((cellsB l) = true) ∧ (I64 (((UInt8.toNat n) : Nat) : Int)) then
              bif !(decide ((Prod.fst (popS l (((UInt8.toNat n) : Nat) : Int))) = (0 : Int))) then (bif eqb (decide ((((List.length l) : Nat) : Int) < (((UInt8.toNat n) : Nat) : Int))) true then (some true)
                  else (some false))
                else (if (((List.length (([] : List PV) ++ (Prod.fst (Prod.snd (popS l (((UInt8.toNat n) : Nat) : Int)))))) * (24 : Nat)) ≤ (70368744177664 : Nat)) ∧ ((List.length (([] : List PV) ++ (Prod.fst (Prod.snd (popS l (((UInt8.toNat n) : Nat) : Int)))))) ≤ (70368744177664 : Nat)) then
                  if (((List.length ((([] : List PV) ++ (Prod.fst (Prod.snd (popS l (((UInt8.toNat n) : Nat) : Int))))) ++ (Prod.snd (Prod.snd (popS l (((UInt8.toNat n) : Nat) : Int)))))) * (24 : Nat)) ≤ (70368744177664 : Nat)) ∧ ((List.length ((([] : List PV) ++ (Prod.fst (Prod.snd (popS l (((UInt8.toNat n) : Nat) : Int))))) ++ (Prod.snd (Prod.snd (popS l (((UInt8.toNat n) : Nat) : Int)))))) ≤ (70368744177664 : Nat)) then
                    if ((cellsB ((([] : List PV) ++ (Prod.fst (Prod.snd (popS l (((UInt8.toNat n) : Nat) : Int))))) ++ (Prod.snd (Prod.snd (popS l (((UInt8.toNat n) : Nat) : Int)))))) = true) ∧ ((cellsB l) = true) then
                      bif eqb (decide ((List.map cellOf ((([] : List PV) ++ (Prod.fst (Prod.snd (popS l (((UInt8.toNat n) : Nat) : Int))))) ++ (Prod.snd (Prod.snd (popS l (((UInt8.toNat n) : Nat) : Int)))))) = (List.map cellOf l))) true then (some true)
                        else (some false)
                    else none
                  else none
                else none)
            else none)
        else none))
      else (some law12_lives)
  else none) := by kernel_rfl
theorem popS_one {l : List PV} {x : PV} : popS (l ++ [x]) 1 = (0, l, [x]) := by
  unfold popS
  rw [if_neg (by omega), if_neg (by simp; omega)]
  simp
theorem law12_CellPops_tail {l : List PV} {n : UInt8} (hc : cellsB l = true) (hlen : l.length ≤ 81) :
    (if ((cellsB l) = true) ∧ (I64 (((UInt8.toNat n) : Nat) : Int)) then
              bif !(decide ((Prod.fst (popS l (((UInt8.toNat n) : Nat) : Int))) = (0 : Int))) then (bif eqb (decide ((((List.length l) : Nat) : Int) < (((UInt8.toNat n) : Nat) : Int))) true then (some true)
                  else (some false))
                else (if (((List.length (([] : List PV) ++ (Prod.fst (Prod.snd (popS l (((UInt8.toNat n) : Nat) : Int)))))) * (24 : Nat)) ≤ (70368744177664 : Nat)) ∧ ((List.length (([] : List PV) ++ (Prod.fst (Prod.snd (popS l (((UInt8.toNat n) : Nat) : Int)))))) ≤ (70368744177664 : Nat)) then
                  if (((List.length ((([] : List PV) ++ (Prod.fst (Prod.snd (popS l (((UInt8.toNat n) : Nat) : Int))))) ++ (Prod.snd (Prod.snd (popS l (((UInt8.toNat n) : Nat) : Int)))))) * (24 : Nat)) ≤ (70368744177664 : Nat)) ∧ ((List.length ((([] : List PV) ++ (Prod.fst (Prod.snd (popS l (((UInt8.toNat n) : Nat) : Int))))) ++ (Prod.snd (Prod.snd (popS l (((UInt8.toNat n) : Nat) : Int)))))) ≤ (70368744177664 : Nat)) then
                    if ((cellsB ((([] : List PV) ++ (Prod.fst (Prod.snd (popS l (((UInt8.toNat n) : Nat) : Int))))) ++ (Prod.snd (Prod.snd (popS l (((UInt8.toNat n) : Nat) : Int)))))) = true) ∧ ((cellsB l) = true) then
                      bif eqb (decide ((List.map cellOf ((([] : List PV) ++ (Prod.fst (Prod.snd (popS l (((UInt8.toNat n) : Nat) : Int))))) ++ (Prod.snd (Prod.snd (popS l (((UInt8.toNat n) : Nat) : Int)))))) = (List.map cellOf l))) true then (some true)
                        else (some false)
                    else none
                  else none
                else none)
            else none) = some true := by
  have hn := n.toNat_lt
  rw [if_pos ⟨hc, by unfold I64; omega⟩]
  by_cases h : ((l.length : Nat) : Int) < ((n.toNat : Nat) : Int)
  · have e : popS l ((n.toNat : Nat) : Int) = (6, [], []) := by
      unfold popS
      rw [if_neg (by omega), if_pos h]
    rw [e, decide_eq_true h]
    rfl
  · have e : popS l ((n.toNat : Nat) : Int) = (0, l.take (l.length - n.toNat), l.drop (l.length - n.toNat)) := by
      unfold popS
      rw [if_neg (by omega), if_neg h, Int.toNat_natCast]
    rw [e]
    simp only [List.nil_append, List.take_append_drop]
    rw [if_pos (by rw [List.length_take]; omega), if_pos (by omega), if_pos ⟨hc, hc⟩]
    simp [eqb_t]
theorem law12_CellPops_spec (l : List PV) (b : List UInt8) (n : UInt8) (hp : cellsW l = true) : law12_CellPops l b n = some true := by
  have hl : law12_lives = true := rfl
  rw [law12_CellPops_q, if_pos hp, hl]
  cases hg : greatS l with
  | true => rfl
  | false =>
    obtain ⟨hc, hlen⟩ := greatS_small hp hg
    have ht := law12_CellPops_tail (n := n) hc hlen
    simp only [eqb_f, Bool.not_false, cond_true, cond_false]
    by_cases h : (4000 : Int) < ((b.length : Nat) : Int)
    · rw [bif_pos h]
    · rw [bif_neg h, if_pos hc]
      by_cases h2 : 64 ≤ l.length ∨ 3000 < b.length
      · have e : pushS l b = (3, []) := if_pos h2
        rw [e]
        exact ht
      · have e : pushS l b = (0, l ++ [PV.sl .u8 b]) := if_neg h2
        have hp1 := pushS_cells (b := b) hc
        rw [e] at hp1
        rw [e]
        simp only [popS_one, decide_true, Bool.not_true, Bool.not_false, cond_true]
        have e3 : RC.get (RC.p 1 [PV.sl EK.u8 b]) [PE.i 0] = PV.sl .u8 b := rfl
        have e4 : PV.slv .u8 (PV.sl .u8 b) = b := rfl
        rw [if_pos ⟨hp1, by unfold I64; omega⟩, if_pos ⟨hc, hc⟩, decide_eq_true (show ((([PV.sl .u8 b] : List PV).length : Nat) : Int) = 1 from rfl), Bool.not_true, Bool.not_false, cond_true, if_pos ⟨by omega, by simp⟩, e3, if_pos (show TY.chk (TY.sl .u8) (PV.sl .u8 b) = true from rfl), e4, if_pos (by omega), ht]
        simp

end
end Go.Proofs.Ytpgpagmnhikpiaa.M

namespace Go.Proofs.Ytpgpagmnhikpiaa.M
open Go
noncomputable section
set_option maxRecDepth 100000
noncomputable def law12_CellPops_T : Tbl := [(21, [], law12_great_c), (11, [], law12_lives_c), (22, [false], cell_Push_c), (24, [false], cell_Pop_c), (26, [], ref12_Same_c), (14, [], ref00_Same_c)]
noncomputable def law12_CellPops_C : CfgW := mkC Try.prog noG law12_CellPops_T 89 0 false
def law12_CellPops_lv : Nat → List Nat := fun i => []
noncomputable abbrev law12_CellPops_b : Code := Try.f8.body.getD .skip
noncomputable abbrev law12_CellPops_r : List ResultVar := Try.f8.results.toList
def law12_CellPops_hs : List Nat := []

def law12_CellPops_enc (r : Bool) : CallOut := ⟨.pv (.sc .b r), [], true, []⟩
theorem law12_CellPops_e (l : List PV) (b : List UInt8) (n : UInt8) (Q : CallOut → Prop) : evalFnP law12_CellPops_C law12_CellPops_lv law12_CellPops_r law12_CellPops_hs law12_CellPops_b [.pv (.sp 1 l), .pv (.sl .u8 b), .pv (.sc .u8 n)] [] Q =
    (((cellsW l) = true) ∧ (condP (eqb (greatS l) false) (condP (bif false then true else (decide ((4000 : Int) < (((List.length b) : Nat) : Int)))) (Q (law12_CellPops_enc law12_lives)) (((cellsB l) = true) ∧ (condP (decide ((Prod.fst (pushS l b)) = (0 : Int))) ((((cellsB (Prod.snd (pushS l b))) = true) ∧ (I64 (1 : Int))) ∧ (condP (eqb (!(decide ((Prod.fst (popS (Prod.snd (pushS l b)) (1 : Int))) = (0 : Int)))) false) ((((cellsB (Prod.fst (Prod.snd (popS (Prod.snd (pushS l b)) (1 : Int))))) = true) ∧ ((cellsB l) = true)) ∧ (condP (eqb (bif false then true else (!(decide ((List.map cellOf (Prod.fst (Prod.snd (popS (Prod.snd (pushS l b)) (1 : Int))))) = (List.map cellOf l))))) false) (condP (eqb (bif false then true else (!(decide ((((List.length (Prod.snd (Prod.snd (popS (Prod.snd (pushS l b)) (1 : Int))))) : Nat) : Int) = (1 : Int))))) false) ((((0 : Int) ≤ (0 : Int)) ∧ ((0 : Int) < (((List.length (Prod.snd (Prod.snd (popS (Prod.snd (pushS l b)) (1 : Int))))) : Nat) : Int))) ∧ (((TY.chk (TY.sl EK.u8) (RC.get (RC.p (1 : Nat) (Prod.snd (Prod.snd (popS (Prod.snd (pushS l b)) (1 : Int))))) ([(PE.i (0 : Nat))] : List PE))) = true) ∧ (((List.length (PV.slv EK.u8 (RC.get (RC.p (1 : Nat) (Prod.snd (Prod.snd (popS (Prod.snd (pushS l b)) (1 : Int))))) ([(PE.i (0 : Nat))] : List PE)))) ≤ (1152921504606846976 : Nat)) ∧ (condP (bif false then true else (!(decide ((PV.slv EK.u8 (RC.get (RC.p (1 : Nat) (Prod.snd (Prod.snd (popS (Prod.snd (pushS l b)) (1 : Int))))) ([(PE.i (0 : Nat))] : List PE))) = b)))) (Q (law12_CellPops_enc false)) ((((cellsB l) = true) ∧ (I64 (((UInt8.toNat n) : Nat) : Int))) ∧ (condP (!(decide ((Prod.fst (popS l (((UInt8.toNat n) : Nat) : Int))) = (0 : Int)))) (condP (eqb (decide ((((List.length l) : Nat) : Int) < (((UInt8.toNat n) : Nat) : Int))) true) (Q (law12_CellPops_enc true)) (Q (law12_CellPops_enc false))) (((((List.length (([] : List PV) ++ (Prod.fst (Prod.snd (popS l (((UInt8.toNat n) : Nat) : Int)))))) * (24 : Nat)) ≤ (70368744177664 : Nat)) ∧ ((List.length (([] : List PV) ++ (Prod.fst (Prod.snd (popS l (((UInt8.toNat n) : Nat) : Int)))))) ≤ (70368744177664 : Nat))) ∧ (((((List.length ((([] : List PV) ++ (Prod.fst (Prod.snd (popS l (((UInt8.toNat n) : Nat) : Int))))) ++ (Prod.snd (Prod.snd (popS l (((UInt8.toNat n) : Nat) : Int)))))) * (24 : Nat)) ≤ (70368744177664 : Nat)) ∧ ((List.length ((([] : List PV) ++ (Prod.fst (Prod.snd (popS l (((UInt8.toNat n) : Nat) : Int))))) ++ (Prod.snd (Prod.snd (popS l (((UInt8.toNat n) : Nat) : Int)))))) ≤ (70368744177664 : Nat))) ∧ ((((cellsB ((([] : List PV) ++ (Prod.fst (Prod.snd (popS l (((UInt8.toNat n) : Nat) : Int))))) ++ (Prod.snd (Prod.snd (popS l (((UInt8.toNat n) : Nat) : Int)))))) = true) ∧ ((cellsB l) = true)) ∧ (condP (eqb (decide ((List.map cellOf ((([] : List PV) ++ (Prod.fst (Prod.snd (popS l (((UInt8.toNat n) : Nat) : Int))))) ++ (Prod.snd (Prod.snd (popS l (((UInt8.toNat n) : Nat) : Int)))))) = (List.map cellOf l))) true) (Q (law12_CellPops_enc true)) (Q (law12_CellPops_enc false)))))))))))) (Q (law12_CellPops_enc false))) (Q (law12_CellPops_enc false)))) (Q (law12_CellPops_enc false)))) ((((cellsB l) = true) ∧ (I64 (((UInt8.toNat n) : Nat) : Int))) ∧ (condP (!(decide ((Prod.fst (popS l (((UInt8.toNat n) : Nat) : Int))) = (0 : Int)))) (condP (eqb (decide ((((List.length l) : Nat) : Int) < (((UInt8.toNat n) : Nat) : Int))) true) (Q (law12_CellPops_enc true)) (Q (law12_CellPops_enc false))) (((((List.length (([] : List PV) ++ (Prod.fst (Prod.snd (popS l (((UInt8.toNat n) : Nat) : Int)))))) * (24 : Nat)) ≤ (70368744177664 : Nat)) ∧ ((List.length (([] : List PV) ++ (Prod.fst (Prod.snd (popS l (((UInt8.toNat n) : Nat) : Int)))))) ≤ (70368744177664 : Nat))) ∧ (((((List.length ((([] : List PV) ++ (Prod.fst (Prod.snd (popS l (((UInt8.toNat n) : Nat) : Int))))) ++ (Prod.snd (Prod.snd (popS l (((UInt8.toNat n) : Nat) : Int)))))) * (24 : Nat)) ≤ (70368744177664 : Nat)) ∧ ((List.length ((([] : List PV) ++ (Prod.fst (Prod.snd (popS l (((UInt8.toNat n) : Nat) : Int))))) ++ (Prod.snd (Prod.snd (popS l (((UInt8.toNat n) : Nat) : Int)))))) ≤ (70368744177664 : Nat))) ∧ ((((cellsB ((([] : List PV) ++ (Prod.fst (Prod.snd (popS l (((UInt8.toNat n) : Nat) : Int))))) ++ (Prod.snd (Prod.snd (popS l (((UInt8.toNat n) : Nat) : Int)))))) = true) ∧ ((cellsB l) = true)) ∧ (condP (eqb (decide ((List.map cellOf ((([] : List PV) ++ (Prod.fst (Prod.snd (popS l (((UInt8.toNat n) : Nat) : Int))))) ++ (Prod.snd (Prod.snd (popS l (((UInt8.toNat n) : Nat) : Int)))))) = (List.map cellOf l))) true) (Q (law12_CellPops_enc true)) (Q (law12_CellPops_enc false))))))))))) (Q (law12_CellPops_enc law12_lives)))) := by kernel_rfl
theorem law12_CellPops_w (l : List PV) (b : List UInt8) (n : UInt8) {r} {Q : CallOut → Prop} (h : law12_CellPops l b n = some r) (hQ : Q (law12_CellPops_enc r)) : evalFnP law12_CellPops_C law12_CellPops_lv law12_CellPops_r law12_CellPops_hs law12_CellPops_b [.pv (.sp 1 l), .pv (.sl .u8 b), .pv (.sc .u8 n)] [] Q :=
  Eq.mpr (law12_CellPops_e l b n Q) (have h := (law12_CellPops_q l b n).symm.trans h; ite_ok h fun hc0 h => cond_ok h (fun h => cond_ok h (fun h => ret_ok (Q := Q) (e := law12_CellPops_enc) h hQ) (fun h => ite_ok h fun hc1 h => cond_ok h (fun h => ite_ok h fun hc2 h => cond_ok h (fun h => ite_ok h fun hc3 h => cond_ok h (fun h => cond_ok h (fun h => ite_ok h fun hc4 h => ite_ok h fun hc5 h => ite_ok h fun hc6 h => cond_ok h (fun h => ret_ok (Q := Q) (e := law12_CellPops_enc) h hQ) (fun h => ite_ok h fun hc7 h => cond_ok h (fun h => cond_ok h (fun h => ret_ok (Q := Q) (e := law12_CellPops_enc) h hQ) (fun h => ret_ok (Q := Q) (e := law12_CellPops_enc) h hQ)) (fun h => ite_ok h fun hc8 h => ite_ok h fun hc9 h => ite_ok h fun hc10 h => cond_ok h (fun h => ret_ok (Q := Q) (e := law12_CellPops_enc) h hQ) (fun h => ret_ok (Q := Q) (e := law12_CellPops_enc) h hQ)))) (fun h => ret_ok (Q := Q) (e := law12_CellPops_enc) h hQ)) (fun h => ret_ok (Q := Q) (e := law12_CellPops_enc) h hQ)) (fun h => ret_ok (Q := Q) (e := law12_CellPops_enc) h hQ)) (fun h => ite_ok h fun hc2 h => cond_ok h (fun h => cond_ok h (fun h => ret_ok (Q := Q) (e := law12_CellPops_enc) h hQ) (fun h => ret_ok (Q := Q) (e := law12_CellPops_enc) h hQ)) (fun h => ite_ok h fun hc3 h => ite_ok h fun hc4 h => ite_ok h fun hc5 h => cond_ok h (fun h => ret_ok (Q := Q) (e := law12_CellPops_enc) h hQ) (fun h => ret_ok (Q := Q) (e := law12_CellPops_enc) h hQ))))) (fun h => ret_ok (Q := Q) (e := law12_CellPops_enc) h hQ))
def law12_CellPops_c : Ans
  | [.pv (.sp 1 l), .pv (.sl .u8 b), .pv (.sc .u8 n)], [] => some (some (cellsW l = true), law12_CellPops_enc (true))
  | _, _ => none
theorem law12_CellPops_tok : TblOK Try.prog noG law12_CellPops_T := .cons ⟨by kernel_rfl, law12_great_ok⟩ (.cons ⟨by kernel_rfl, law12_lives_ok⟩ (.cons ⟨by kernel_rfl, cell_Push_ok⟩ (.cons ⟨by kernel_rfl, cell_Pop_ok⟩ (.cons ⟨by kernel_rfl, ref12_Same_ok⟩ (.cons ⟨by kernel_rfl, ref00_Same_ok⟩ (.nil))))))
theorem law12_CellPops_ok : FnOK Try.prog noG 8 (unW law12_CellPops_c) := by
  refine FnOK.ofC (T := law12_CellPops_T) (nt := 89) (np := 0) (nf := false) (hs := law12_CellPops_hs) (fn := Try.f8) (body := law12_CellPops_b) law12_CellPops_tok (by kernel_rfl) (by kernel_rfl) (by kernel_rfl) (by kernel_rfl) (c := law12_CellPops_c) (lv := law12_CellPops_lv) ?_
  intro xs mem p out h hp
  unfold law12_CellPops_c at h
  split at h
  · cases h
    exact law12_CellPops_w _ _ _ (law12_CellPops_spec _ _ _ hp) rfl
  · cases h
end
end Go.Proofs.Ytpgpagmnhikpiaa.M

namespace Go.Proofs.Ytpgpagmnhikpiaa
open Go Go.ChangeShapes Go.WideShapes Go.ChangeAt Go.RowKit
open Go.Proofs.Ytpgpagmnhikpiaa
theorem law12_CellPops_own : ownKnob Try.prog.godebug = none := by kernel_rfl
theorem law12_CellPops_law : ∀ ys : List M.PV, M.FitL [.sp 1 (.sl .u8), .sl .u8, .sc .u8] ys → ∃ p out, M.law12_CellPops_c (ys.map .pv) [] = some (p, out) ∧ p.h ∧ out.val = .pv (.sc .b true) := by
  rintro ys ⟨_, _, rfl, ⟨x0, rfl, hx0, lx0⟩, ⟨_, _, rfl, ⟨x1, rfl, hx1, lx1⟩, ⟨_, _, rfl, ⟨x2, rfl, hx2⟩, rfl⟩⟩⟩
  exact ⟨_, _, rfl, M.cellsW_fit hx0, rfl⟩
set_option maxRecDepth 100000 in
theorem law12_CellPops_lifted (os : Os) (started : os.Started) (H : Type) (enc : TypeId × Value → H) :
    ReturnsInHanded {} Try.checked os 8 .any (Rows.cellPopsSpec.pre6 enc Try.prog Try.f8 [] false)
      (Rows.cellPopsSpec.post enc Try.prog Try.f8 false true false false) := by
  refine returnsInHanded_of_change_sized (C := Try.checked) law12_CellPops_own started (by kernel_rfl) (by kernel_rfl)
    (ChangeSpec.witness6 (enc := enc) (C := Try.checked) (os := os) false ⟨#[], #[.slice none 0 0, .slice none 0 0, .int .u8 0], []⟩ 8 (by kernel_rfl) (by kernel_rfl) (by kernel_rfl) (by kernel_rfl)) ?_
  intro W base args ds gs before hval hW _ hsz _
  exact M.law_contract (ss := [.sp 1 (.sl .u8), .sl .u8, .sc .u8]) (G := M.noG) (c := M.law12_CellPops_c) (tb := 4) rfl (fun ds h => by
      match ds, h with
      | [d0, d1, d2], _ => rfl) (by kernel_rfl) (by kernel_rfl) (by kernel_rfl) (by kernel_rfl) (by kernel_rfl) M.law12_CellPops_ok law12_CellPops_law hval hW hsz M.globOK_none
theorem cellPops_row : Rows.CellPopsSaid :=
  OpenClaim.holds_of_wide 8 Try.f8 rfl rfl rfl rfl rfl rfl rfl ⟨rfl, rfl, rfl, rfl, rfl⟩ rfl rfl rfl rfl rfl (by kernel_rfl) (by kernel_rfl) (by kernel_rfl)
    (of_decide_eq_true (by kernel_rfl)) (by unfold Func.isWrapper; first | (rw [if_pos (by decide +kernel)]; kernel_rfl) | (rw [if_neg (by decide +kernel)]; exact ⟨rfl, rfl⟩))
    (fun os started H enc _ => law12_CellPops_lifted os started H enc)
#print axioms cellPops_row
end Go.Proofs.Ytpgpagmnhikpiaa
