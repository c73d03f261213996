/- The statement of MerkleFresh: for every input the law returns true, and each argument reads behind the call as it read before. No condition. -/
import Derived.KernelRfl
import Derived.Test.YtbdajagcinfeeaaDoorProg
import Derived.Test.YtbdajagcinfeeaaDoorRows
import Derived.Test.YtbdajagcinfeeaaDoorCards
import Derived.Test.YtbdajagcinfeeaaDoorTie
import Derived.WalkKit
import Derived.ProofKit
import Derived.Handy
import Derived.Lay
import Derived.SizedLaws
import Derived.SevenTiedAt
import Derived.Test.YtbdajagcinfeeaaDoorLe
import Derived.Test.YtbdajagcinfeeaaDoorFmerkle
import Derived.Test.YtbdajagcinfeeaaDoorFref09
import Derived.Test.YtbdajagcinfeeaaDoorFref00
import Derived.Test.YtbdajagcinfeeaaDoorFlaw09
import Derived.Test.YtbdajagcinfeeaaDoorSwords
import Derived.Test.YtbdajagcinfeeaaDoorSshaS
import Derived.Test.YtbdajagcinfeeaaDoorSmerS
import Derived.Test.YtbdajagcinfeeaaDoorSbigS
import Derived.Test.YtbdajagcinfeeaaDoorSshaK
import Derived.Test.YtbdajagcinfeeaaDoorShashF
import Derived.Test.YtbdajagcinfeeaaDoorSKL
set_option linter.unusedVariables false
set_option linter.unusedSimpArgs false
set_option autoImplicit false
namespace Go.Proofs.YtbdajagcinfeeaaDoor.M
open Go
noncomputable section
/-- the loop 0 of moneyer/moneyerlaw09.MerkleFresh -/
def law09_MerkleFresh_h0 : Nat → (List PV) → Int → Int → Int → (List PV) → (List PV) → Option (Bool)
  | 0, _, _, _, _, _, _ => none
  | k + 1, l, n, e, i, m, w => bif decide (i < (((List.length w) : Nat) : Int)) then (if ((0 : Int) ≤ i) ∧ (i < (((List.length w) : Nat) : Int)) then
        if (((0 : Int) ≤ (0 : Int)) ∧ ((0 : Int) < (32 : Int))) ∧ ((arrLen (A.pv (RC.get (RC.p (32 : Nat) w) ([(PE.i (Int.toNat i))] : List PE)))) = (Option.some ((32 : Nat), (1 : Nat)))) then
          if (TY.chk (TY.sc EK.u8) (RC.get (RC.p (32 : Nat) w) (([(PE.i (Int.toNat i))] : List PE) ++ ([(PE.i (0 : Nat))] : List PE)))) = true then
            if ((PV.size (PV.get (List.getD w (Int.toNat i) PV.nilp) ([(PE.i (0 : Nat))] : List PE))) = (1 : Nat)) ∧ ((Option.isSome (PV.set (List.getD w (Int.toNat i) PV.nilp) ([(PE.i (0 : Nat))] : List PE) (PV.sc EK.u8 ((PV.scv EK.u8 (RC.get (RC.p (32 : Nat) w) (([(PE.i (Int.toNat i))] : List PE) ++ ([(PE.i (0 : Nat))] : List PE)))) + (1 : UInt8))))) = true) then
              law09_MerkleFresh_h0 k l n e (w64 (i + (1 : Int))) m (List.set w (Int.toNat i) (Option.getD (PV.set (List.getD w (Int.toNat i) PV.nilp) ([(PE.i (0 : Nat))] : List PE) (PV.sc EK.u8 ((PV.scv EK.u8 (RC.get (RC.p (32 : Nat) w) (([(PE.i (Int.toNat i))] : List PE) ++ ([(PE.i (0 : Nat))] : List PE)))) + (1 : UInt8)))) PV.nilp))
            else none
          else none
        else none
      else none)
      else (if (hashesB l) = true then
        if ((hashesB l) = true) ∧ ((List.length l) ≤ (1099511627700 : Nat)) then
          if ((hashesB l) = true) ∧ ((hashesB m) = true) then
            bif eqb (hashesS l m) true then (bif eqb (bif true then (decide (e = (wayE (hOfs l) n))) else false) true then (bif eqb (bif true then (decide ((wayE (hOfs l) n) = (wayE (hOfs l) n))) else false) true then (if ((hashesB (wayL (hOfs l) n)) = true) ∧ ((hashesB (wayL (hOfs l) n)) = true) then
                    bif eqb (bif true then (hashesS (wayL (hOfs l) n) (wayL (hOfs l) n)) else false) true then (some true)
                      else (some false)
                  else none)
                  else (some false))
                else (some false))
              else (some false)
          else none
        else none
      else none)
theorem law09_MerkleFresh_h0_q (k : Nat) (l : List PV) (n : Int) (e : Int) (i : Int) (m : List PV) (w : List PV) : law09_MerkleFresh_h0 (k + 1) l n e i m w =
  (bif decide (i < (((List.length w) : Nat) : Int)) then (if ((0 : Int) ≤ i) ∧ (i < (((List.length w) : Nat) : Int)) then
        if (((0 : Int) ≤ (0 : Int)) ∧ ((0 : Int) < (32 : Int))) ∧ ((arrLen (A.pv (RC.get (RC.p (32 : Nat) w) ([(PE.i (Int.toNat i))] : List PE)))) = (Option.some ((32 : Nat), (1 : Nat)))) then
          if (TY.chk (TY.sc EK.u8) (RC.get (RC.p (32 : Nat) w) (([(PE.i (Int.toNat i))] : List PE) ++ ([(PE.i (0 : Nat))] : List PE)))) = true then
            if ((PV.size (PV.get (List.getD w (Int.toNat i) PV.nilp) ([(PE.i (0 : Nat))] : List PE))) = (1 : Nat)) ∧ ((Option.isSome (PV.set (List.getD w (Int.toNat i) PV.nilp) ([(PE.i (0 : Nat))] : List PE) (PV.sc EK.u8 ((PV.scv EK.u8 (RC.get (RC.p (32 : Nat) w) (([(PE.i (Int.toNat i))] : List PE) ++ ([(PE.i (0 : Nat))] : List PE)))) + (1 : UInt8))))) = true) then
              law09_MerkleFresh_h0 k l n e (w64 (i + (1 : Int))) m (List.set w (Int.toNat i) (Option.getD (PV.set (List.getD w (Int.toNat i) PV.nilp) ([(PE.i (0 : Nat))] : List PE) (PV.sc EK.u8 ((PV.scv EK.u8 (RC.get (RC.p (32 : Nat) w) (([(PE.i (Int.toNat i))] : List PE) ++ ([(PE.i (0 : Nat))] : List PE)))) + (1 : UInt8)))) PV.nilp))
            else none
          else none
        else none
      else none)
      else (if (hashesB l) = true then
        if ((hashesB l) = true) ∧ ((List.length l) ≤ (1099511627700 : Nat)) then
          if ((hashesB l) = true) ∧ ((hashesB m) = true) then
            bif eqb (hashesS l m) true then (bif eqb (bif true then (decide (e = (wayE (hOfs l) n))) else false) true then (bif eqb (bif true then (decide ((wayE (hOfs l) n) = (wayE (hOfs l) n))) else false) true then (if ((hashesB (wayL (hOfs l) n)) = true) ∧ ((hashesB (wayL (hOfs l) n)) = true) then
                    bif eqb (bif true then (hashesS (wayL (hOfs l) n) (wayL (hOfs l) n)) else false) true then (some true)
                      else (some false)
                  else none)
                  else (some false))
                else (some false))
              else (some false)
          else none
        else none
      else none)) := by kernel_rfl
/-- moneyer/moneyerlaw09.MerkleFresh -/
def law09_MerkleFresh (k : Nat) (l : List PV) (n : Int) : Option (Bool) :=
  bif decide ((100 : Int) < (((List.length l) : Nat) : Int)) then (if ((0 : Int) ≤ (0 : Int)) ∧ (((0 : Int) ≤ (100 : Int)) ∧ ((100 : Int) ≤ (((List.length l) : Nat) : Int))) then
      if (((List.length (([] : List PV) ++ (List.take ((Int.toNat (100 : Int)) - (Int.toNat (0 : Int))) (List.drop (Int.toNat (0 : Int)) l)))) * (32 : Nat)) ≤ (70368744177664 : Nat)) ∧ ((List.length (([] : List PV) ++ (List.take ((Int.toNat (100 : Int)) - (Int.toNat (0 : Int))) (List.drop (Int.toNat (0 : Int)) l)))) ≤ (70368744177664 : Nat)) then
        if (hashesB (([] : List PV) ++ (List.take ((Int.toNat (100 : Int)) - (Int.toNat (0 : Int))) (List.drop (Int.toNat (0 : Int)) l)))) = true then
          law09_MerkleFresh_h0 k (List.take ((Int.toNat (100 : Int)) - (Int.toNat (0 : Int))) (List.drop (Int.toNat (0 : Int)) l)) n (wayE (hOfs (([] : List PV) ++ (List.take ((Int.toNat (100 : Int)) - (Int.toNat (0 : Int))) (List.drop (Int.toNat (0 : Int)) l)))) n) (0 : Int) (([] : List PV) ++ (List.take ((Int.toNat (100 : Int)) - (Int.toNat (0 : Int))) (List.drop (Int.toNat (0 : Int)) l))) (wayL (hOfs (([] : List PV) ++ (List.take ((Int.toNat (100 : Int)) - (Int.toNat (0 : Int))) (List.drop (Int.toNat (0 : Int)) l)))) n)
        else none
      else none
    else none)
    else (if (((List.length (([] : List PV) ++ l)) * (32 : Nat)) ≤ (70368744177664 : Nat)) ∧ ((List.length (([] : List PV) ++ l)) ≤ (70368744177664 : Nat)) then
      if (hashesB (([] : List PV) ++ l)) = true then
        law09_MerkleFresh_h0 k l n (wayE (hOfs (([] : List PV) ++ l)) n) (0 : Int) (([] : List PV) ++ l) (wayL (hOfs (([] : List PV) ++ l)) n)
      else none
    else none)
theorem law09_MerkleFresh_q (k : Nat) (l : List PV) (n : Int) : law09_MerkleFresh k l n = (bif decide ((100 : Int) < (((List.length l) : Nat) : Int)) then (if ((0 : Int) ≤ (0 : Int)) ∧ (((0 : Int) ≤ (100 : Int)) ∧ ((100 : Int) ≤ (((List.length l) : Nat) : Int))) then
      if (((List.length (([] : List PV) ++ (List.take ((Int.toNat (100 : Int)) - (Int.toNat (0 : Int))) (List.drop (Int.toNat (0 : Int)) l)))) * (32 : Nat)) ≤ (70368744177664 : Nat)) ∧ ((List.length (([] : List PV) ++ (List.take ((Int.toNat (100 : Int)) - (Int.toNat (0 : Int))) (List.drop (Int.toNat (0 : Int)) l)))) ≤ (70368744177664 : Nat)) then
        if (hashesB (([] : List PV) ++ (List.take ((Int.toNat (100 : Int)) - (Int.toNat (0 : Int))) (List.drop (Int.toNat (0 : Int)) l)))) = true then
          law09_MerkleFresh_h0 k (List.take ((Int.toNat (100 : Int)) - (Int.toNat (0 : Int))) (List.drop (Int.toNat (0 : Int)) l)) n (wayE (hOfs (([] : List PV) ++ (List.take ((Int.toNat (100 : Int)) - (Int.toNat (0 : Int))) (List.drop (Int.toNat (0 : Int)) l)))) n) (0 : Int) (([] : List PV) ++ (List.take ((Int.toNat (100 : Int)) - (Int.toNat (0 : Int))) (List.drop (Int.toNat (0 : Int)) l))) (wayL (hOfs (([] : List PV) ++ (List.take ((Int.toNat (100 : Int)) - (Int.toNat (0 : Int))) (List.drop (Int.toNat (0 : Int)) l)))) n)
        else none
      else none
    else none)
    else (if (((List.length (([] : List PV) ++ l)) * (32 : Nat)) ≤ (70368744177664 : Nat)) ∧ ((List.length (([] : List PV) ++ l)) ≤ (70368744177664 : Nat)) then
      if (hashesB (([] : List PV) ++ l)) = true then
        law09_MerkleFresh_h0 k l n (wayE (hOfs (([] : List PV) ++ l)) n) (0 : Int) (([] : List PV) ++ l) (wayL (hOfs (([] : List PV) ++ l)) n)
      else none
    else none)) := by kernel_rfl
theorem fresh_end (l : List PV) (n : Int) (h : hashesB l = true) (hl : l.length ≤ 1099511627700) (k : Nat) (i : Nat) (ws : List (Vector UInt8 32)) (hi : ws.length ≤ i) :
    law09_MerkleFresh_h0 (k + 1) l n (wayE (hOfs l) n) (i : Int) l (hArrs ws) = some true := by
  have hw := hArrs_len ws
  have hn := hOfs_len l
  have e4 : hashesB (wayL (hOfs l) n) = true := wayL_ok (by omega) n
  rw [law09_MerkleFresh_h0, bif_neg (by omega), if_pos h, if_pos ⟨h, hl⟩, if_pos ⟨h, h⟩, hashesS_self]
  simp [eqb, e4, hashesS_self]
theorem fresh_loop (l : List PV) (n : Int) (h : hashesB l = true) (hl : l.length ≤ 1099511627700) (ws : List (Vector UInt8 32)) (hb : ws.length ≤ 1099511627776) :
    Ev (fun k => law09_MerkleFresh_h0 k l n (wayE (hOfs l) n) 0 l (hArrs ws)) true := by
  refine Ev.inv (H := fun k i s => law09_MerkleFresh_h0 k l n (wayE (hOfs l) n) i l s) (n := ws.length) (fun i s => ∃ x : List (Vector UInt8 32), s = hArrs x ∧ x.length = ws.length) ?_ ?_ ws.length 0 (hArrs ws) (by omega) ⟨ws, rfl, rfl⟩
  · rintro i s hi ⟨x, rfl, hx⟩ ih
    have hxl := hArrs_len x
    have hg : List.getD (hArrs x) i .nilp = PV.arr .u8 32 (x.getD i hZero) := hArrs_get x (by omega)
    generalize x.getD i hZero = v at *
    have g1 : RC.get (.p 32 (hArrs x)) [PE.i i] = PV.arr .u8 32 v := by
      show PV.get (List.getD (hArrs x) i .nilp) [] = _
      rw [hg]; rfl
    have g2 : RC.get (.p 32 (hArrs x)) ([PE.i i] ++ [PE.i 0]) = PV.sc .u8 (List.getD (Vector.toList v) 0 0) := by
      show PV.get (List.getD (hArrs x) i .nilp) [PE.i 0] = _
      rw [hg]; rfl
    refine Ev.step (fun k => ?_) (ih (hArrs (x.set i (Vector.setIfInBounds v 0 (List.getD (Vector.toList v) 0 0 + 1)))) ⟨_, rfl, by rw [List.length_set]; exact hx⟩)
    rw [law09_MerkleFresh_h0, bif_pos (by omega), if_pos (by omega), Int.toNat_natCast, g1, if_pos ⟨⟨by decide, by decide⟩, by rfl⟩, g2, if_pos (by rfl), hg, if_pos ⟨by rfl, by rfl⟩, w64_id (by omega) (by omega)]
    have hs : hArrs (x.set i (Vector.setIfInBounds v 0 (List.getD (Vector.toList v) 0 0 + 1))) = List.set (hArrs x) i (PV.arr .u8 32 (Vector.setIfInBounds v 0 (List.getD (Vector.toList v) 0 0 + 1))) := by
      unfold hArrs
      rw [List.map_set]
      rfl
    rw [hs]
    rfl
  · rintro s ⟨x, rfl, hx⟩
    exact Ev.done fun k => fresh_end l n h hl k ws.length x (by omega)
theorem law09_MerkleFresh_spec (l : List PV) (n : Int) (hp : hashesW l = true) : Ev (fun k => law09_MerkleFresh k l n) true := by
  have t1 : hashesW (l.take 100) = true := all_take hp 100
  have go : ∀ x : List PV, hashesW x = true → x.length ≤ 100 → Ev (fun k => if ((x.length * 32 ≤ 70368744177664) ∧ (x.length ≤ 70368744177664)) then (if hashesB x = true then law09_MerkleFresh_h0 k x n (wayE (hOfs x) n) 0 x (wayL (hOfs x) n) else none) else none) true := by
    intro x h1 h2
    have hB := hashesB_of h1 (by omega)
    have hn := hOfs_len x
    have hW : ∃ ws : List (Vector UInt8 32), wayL (hOfs x) n = hArrs ws ∧ ws.length ≤ 1099511627776 := by
      rw [wayL_eq]
      split
      · refine ⟨_, rfl, ?_⟩
        rw [wayGo_len _ _ _ (Nat.le_refl _)]
        have := rowsC_self _ _ (Nat.le_refl (hOfs x).length)
        omega
      · exact ⟨[], rfl, by simp⟩
    obtain ⟨ws, e, hw⟩ := hW
    rw [e]
    refine Ev.same (fun k => ?_) (fresh_loop x n hB (by omega) ws hw)
    rw [if_pos ⟨by omega, by omega⟩, if_pos hB]
  have cut : List.take (Int.toNat (100 : Int) - Int.toNat (0 : Int)) (List.drop (Int.toNat (0 : Int)) l) = l.take 100 := rfl
  by_cases c1 : (100 : Int) < (((List.length l) : Nat) : Int)
  · refine Ev.same (fun k => ?_) (go (l.take 100) t1 (by rw [List.length_take]; omega))
    rw [law09_MerkleFresh, bif_pos c1, if_pos (by omega), cut]
    simp only [List.nil_append]
  · refine Ev.same (fun k => ?_) (go l hp (by omega))
    rw [law09_MerkleFresh, bif_neg c1]
    simp only [List.nil_append]

end
end Go.Proofs.YtbdajagcinfeeaaDoor.M

namespace Go.Proofs.YtbdajagcinfeeaaDoor.M
open Go
noncomputable section
set_option maxRecDepth 100000
set_option maxHeartbeats 0
noncomputable def law09_MerkleFresh_T : Tbl := [(11, [], merkle_Root_c), (14, [], merkle_Way_c), (15, [], ref09_Way_c), (16, [], ref00_Hashes_c), (12, [], law09_works_c)]
noncomputable def law09_MerkleFresh_C : CfgW := mkC Tryd.prog theG law09_MerkleFresh_T 76 0 false
def law09_MerkleFresh_lv : Nat → List Nat := fun i => bif Nat.beq i 0 then [0, 1, 5, 6, 7, 8] else []
noncomputable abbrev law09_MerkleFresh_b : Code := Tryd.f4.body.getD .skip
noncomputable abbrev law09_MerkleFresh_r : List ResultVar := Tryd.f4.results.toList
def law09_MerkleFresh_hs : List Nat := []

def law09_MerkleFresh_enc (r : Bool) : CallOut := ⟨.pv (.sc .b r), [], true, []⟩
def law09_MerkleFresh_s0 (l : List PV) (n : Int) (e : Int) (i : Int) (m : List PV) (w : List PV) : St := ⟨[(0, .pv (.sp 32 l)), (1, .pv (.sc .i n)), (5, .o 60000), (6, .o 60001), (7, .pv (.sc .i e)), (8, .pv (.sc .i i))], [(60000, .row (.p 32 m) false), (60001, .row (.p 32 w) false)]⟩
theorem law09_MerkleFresh_g0 (l : List PV) (n : Int) (e : Int) (i : Int) (m : List PV) (w : List PV) (Q : CallOut → Prop) : headRound law09_MerkleFresh_C law09_MerkleFresh_lv [true, true, true, true, true, true, false, true, false] law09_MerkleFresh_b (law09_MerkleFresh_s0 l n e i m w) (fnK law09_MerkleFresh_C law09_MerkleFresh_r law09_MerkleFresh_hs Q) =
    (condP (decide (i < (((List.length w) : Nat) : Int))) ((((0 : Int) ≤ i) ∧ (i < (((List.length w) : Nat) : Int))) ∧ (((((0 : Int) ≤ (0 : Int)) ∧ ((0 : Int) < (32 : Int))) ∧ ((arrLen (A.pv (RC.get (RC.p (32 : Nat) w) ([(PE.i (Int.toNat i))] : List PE)))) = (Option.some ((32 : Nat), (1 : Nat))))) ∧ (((TY.chk (TY.sc EK.u8) (RC.get (RC.p (32 : Nat) w) (([(PE.i (Int.toNat i))] : List PE) ++ ([(PE.i (0 : Nat))] : List PE)))) = true) ∧ ((((0 : Int) ≤ i) ∧ (i < (((List.length w) : Nat) : Int))) ∧ (((((0 : Int) ≤ (0 : Int)) ∧ ((0 : Int) < (32 : Int))) ∧ ((arrLen (A.pv (RC.get (RC.p (32 : Nat) w) ([(PE.i (Int.toNat i))] : List PE)))) = (Option.some ((32 : Nat), (1 : Nat))))) ∧ ((((PV.size (PV.get (List.getD w (Int.toNat i) PV.nilp) ([(PE.i (0 : Nat))] : List PE))) = (1 : Nat)) ∧ ((Option.isSome (PV.set (List.getD w (Int.toNat i) PV.nilp) ([(PE.i (0 : Nat))] : List PE) (PV.sc EK.u8 ((PV.scv EK.u8 (RC.get (RC.p (32 : Nat) w) (([(PE.i (Int.toNat i))] : List PE) ++ ([(PE.i (0 : Nat))] : List PE)))) + (1 : UInt8))))) = true)) ∧ (headP law09_MerkleFresh_C law09_MerkleFresh_lv [true, true, true, true, true, true, false, true, false] law09_MerkleFresh_b (law09_MerkleFresh_s0 l n e (w64 (i + (1 : Int))) m (List.set w (Int.toNat i) (Option.getD (PV.set (List.getD w (Int.toNat i) PV.nilp) ([(PE.i (0 : Nat))] : List PE) (PV.sc EK.u8 ((PV.scv EK.u8 (RC.get (RC.p (32 : Nat) w) (([(PE.i (Int.toNat i))] : List PE) ++ ([(PE.i (0 : Nat))] : List PE)))) + (1 : UInt8)))) PV.nilp))) (fnK law09_MerkleFresh_C law09_MerkleFresh_r law09_MerkleFresh_hs Q)))))))) (((hashesB l) = true) ∧ ((((hashesB l) = true) ∧ ((List.length l) ≤ (1099511627700 : Nat))) ∧ ((((hashesB l) = true) ∧ ((hashesB m) = true)) ∧ (condP (eqb (hashesS l m) true) (condP (eqb (bif true then (decide (e = (wayE (hOfs l) n))) else false) true) (condP (eqb (bif true then (decide ((wayE (hOfs l) n) = (wayE (hOfs l) n))) else false) true) ((((hashesB (wayL (hOfs l) n)) = true) ∧ ((hashesB (wayL (hOfs l) n)) = true)) ∧ (condP (eqb (bif true then (hashesS (wayL (hOfs l) n) (wayL (hOfs l) n)) else false) true) (Q (law09_MerkleFresh_enc true)) (Q (law09_MerkleFresh_enc false)))) (Q (law09_MerkleFresh_enc false))) (Q (law09_MerkleFresh_enc false))) (Q (law09_MerkleFresh_enc false))))))) := by kernel_rfl
theorem law09_MerkleFresh_k0 {r : Bool} {Q : CallOut → Prop} (hQ : Q (law09_MerkleFresh_enc r)) : ∀ k : Nat, (∀ (l : List PV) (n : Int) (e : Int) (i : Int) (m : List PV) (w : List PV), law09_MerkleFresh_h0 k l n e i m w = some r → headP law09_MerkleFresh_C law09_MerkleFresh_lv [true, true, true, true, true, true, false, true, false] law09_MerkleFresh_b (law09_MerkleFresh_s0 l n e i m w) (fnK law09_MerkleFresh_C law09_MerkleFresh_r law09_MerkleFresh_hs Q))
  | 0 => fun _ _ _ _ _ _ h => no_ok h
  | k + 1 => fun l n e i m w h => headP_step (Eq.mpr (law09_MerkleFresh_g0 l n e i m w Q) (have h := (law09_MerkleFresh_h0_q k l n e i m w).symm.trans h; cond_ok h (fun h => ite_ok h fun hc0 h => ite_ok h fun hc1 h => ite_ok h fun hc2 h => ⟨hc0, ⟨hc1, ite_ok h fun hc3 h => (law09_MerkleFresh_k0 hQ k) _ _ _ _ _ _ h⟩⟩) (fun h => ite_ok h fun hc0 h => ite_ok h fun hc1 h => ite_ok h fun hc2 h => cond_ok h (fun h => cond_ok h (fun h => cond_ok h (fun h => ite_ok h fun hc3 h => cond_ok h (fun h => ret_ok (Q := Q) (e := law09_MerkleFresh_enc) h hQ) (fun h => ret_ok (Q := Q) (e := law09_MerkleFresh_enc) h hQ)) (fun h => ret_ok (Q := Q) (e := law09_MerkleFresh_enc) h hQ)) (fun h => ret_ok (Q := Q) (e := law09_MerkleFresh_enc) h hQ)) (fun h => ret_ok (Q := Q) (e := law09_MerkleFresh_enc) h hQ))))
theorem law09_MerkleFresh_e (l : List PV) (n : Int) (Q : CallOut → Prop) : evalFnP law09_MerkleFresh_C law09_MerkleFresh_lv law09_MerkleFresh_r law09_MerkleFresh_hs law09_MerkleFresh_b [.pv (.sp 32 l), .pv (.sc .i n)] [] Q =
    (condP (decide ((100 : Int) < (((List.length l) : Nat) : Int))) ((((0 : Int) ≤ (0 : Int)) ∧ (((0 : Int) ≤ (100 : Int)) ∧ ((100 : Int) ≤ (((List.length l) : Nat) : Int)))) ∧ (((((List.length (([] : List PV) ++ (List.take ((Int.toNat (100 : Int)) - (Int.toNat (0 : Int))) (List.drop (Int.toNat (0 : Int)) l)))) * (32 : Nat)) ≤ (70368744177664 : Nat)) ∧ ((List.length (([] : List PV) ++ (List.take ((Int.toNat (100 : Int)) - (Int.toNat (0 : Int))) (List.drop (Int.toNat (0 : Int)) l)))) ≤ (70368744177664 : Nat))) ∧ (((hashesB (([] : List PV) ++ (List.take ((Int.toNat (100 : Int)) - (Int.toNat (0 : Int))) (List.drop (Int.toNat (0 : Int)) l)))) = true) ∧ (((hashesB (([] : List PV) ++ (List.take ((Int.toNat (100 : Int)) - (Int.toNat (0 : Int))) (List.drop (Int.toNat (0 : Int)) l)))) = true) ∧ (headP law09_MerkleFresh_C law09_MerkleFresh_lv [true, true, true, true, true, true, false, true, false] law09_MerkleFresh_b (law09_MerkleFresh_s0 (List.take ((Int.toNat (100 : Int)) - (Int.toNat (0 : Int))) (List.drop (Int.toNat (0 : Int)) l)) n (wayE (hOfs (([] : List PV) ++ (List.take ((Int.toNat (100 : Int)) - (Int.toNat (0 : Int))) (List.drop (Int.toNat (0 : Int)) l)))) n) (0 : Int) (([] : List PV) ++ (List.take ((Int.toNat (100 : Int)) - (Int.toNat (0 : Int))) (List.drop (Int.toNat (0 : Int)) l))) (wayL (hOfs (([] : List PV) ++ (List.take ((Int.toNat (100 : Int)) - (Int.toNat (0 : Int))) (List.drop (Int.toNat (0 : Int)) l)))) n)) (fnK law09_MerkleFresh_C law09_MerkleFresh_r law09_MerkleFresh_hs Q)))))) (((((List.length (([] : List PV) ++ l)) * (32 : Nat)) ≤ (70368744177664 : Nat)) ∧ ((List.length (([] : List PV) ++ l)) ≤ (70368744177664 : Nat))) ∧ (((hashesB (([] : List PV) ++ l)) = true) ∧ (((hashesB (([] : List PV) ++ l)) = true) ∧ (headP law09_MerkleFresh_C law09_MerkleFresh_lv [true, true, true, true, true, true, false, true, false] law09_MerkleFresh_b (law09_MerkleFresh_s0 l n (wayE (hOfs (([] : List PV) ++ l)) n) (0 : Int) (([] : List PV) ++ l) (wayL (hOfs (([] : List PV) ++ l)) n)) (fnK law09_MerkleFresh_C law09_MerkleFresh_r law09_MerkleFresh_hs Q)))))) := by kernel_rfl
theorem law09_MerkleFresh_w {k : Nat} (l : List PV) (n : Int) {r} {Q : CallOut → Prop} (h : law09_MerkleFresh k l n = some r) (hQ : Q (law09_MerkleFresh_enc r)) : evalFnP law09_MerkleFresh_C law09_MerkleFresh_lv law09_MerkleFresh_r law09_MerkleFresh_hs law09_MerkleFresh_b [.pv (.sp 32 l), .pv (.sc .i n)] [] Q :=
  Eq.mpr (law09_MerkleFresh_e l n Q) (have h := (law09_MerkleFresh_q k l n).symm.trans h; cond_ok h (fun h => ite_ok h fun hc0 h => ite_ok h fun hc1 h => ite_ok h fun hc2 h => ⟨hc2, (law09_MerkleFresh_k0 hQ _) _ _ _ _ _ _ h⟩) (fun h => ite_ok h fun hc0 h => ite_ok h fun hc1 h => ⟨hc1, (law09_MerkleFresh_k0 hQ _) _ _ _ _ _ _ h⟩))
def law09_MerkleFresh_c : Ans
  | [.pv (.sp 32 l), .pv (.sc .i n)], [] => some (some (hashesW l = true), law09_MerkleFresh_enc (true))
  | _, _ => none
theorem law09_MerkleFresh_tok : TblOK Tryd.prog theG law09_MerkleFresh_T := .cons ⟨by kernel_rfl, merkle_Root_ok⟩ (.cons ⟨by kernel_rfl, merkle_Way_ok⟩ (.cons ⟨by kernel_rfl, ref09_Way_ok⟩ (.cons ⟨by kernel_rfl, ref00_Hashes_ok⟩ (.cons ⟨by kernel_rfl, law09_works_ok⟩ (.nil)))))
theorem law09_MerkleFresh_ok : FnOK Tryd.prog theG 4 (unW law09_MerkleFresh_c) := by
  refine FnOK.ofC (T := law09_MerkleFresh_T) (nt := 76) (np := 0) (nf := false) (hs := law09_MerkleFresh_hs) (fn := Tryd.f4) (body := law09_MerkleFresh_b) law09_MerkleFresh_tok (by kernel_rfl) (by kernel_rfl) (by kernel_rfl) (by kernel_rfl) (c := law09_MerkleFresh_c) (lv := law09_MerkleFresh_lv) ?_
  intro xs mem p out h hp
  unfold law09_MerkleFresh_c at h
  split at h
  · cases h
    obtain ⟨k, hk⟩ := law09_MerkleFresh_spec _ _ hp
    exact law09_MerkleFresh_w _ _ hk rfl
  · cases h
end
end Go.Proofs.YtbdajagcinfeeaaDoor.M

namespace Go.Proofs.YtbdajagcinfeeaaDoor
open Go Go.ChangeShapes Go.WideShapes Go.ChangeAt Go.RowKit
open Go.Proofs.YtbdajagcinfeeaaDoor
theorem law09_MerkleFresh_own : ownKnob Tryd.prog.godebug = none := by kernel_rfl
theorem law09_MerkleFresh_law : ∀ ys : List M.PV, M.FitL [.sp 32 (.arr .u8 32), .sc .i] ys → ∃ p out, M.law09_MerkleFresh_c (ys.map .pv) [] = some (p, out) ∧ p.h ∧ out.val = .pv (.sc .b true) := by
  rintro ys ⟨_, _, rfl, ⟨x0, rfl, hx0, lx0⟩, ⟨_, _, rfl, ⟨x1, rfl, hx1⟩, rfl⟩⟩
  exact ⟨_, _, rfl, M.hashesW_fit hx0, rfl⟩
set_option maxRecDepth 100000 in
theorem law09_MerkleFresh_lifted (os : Os) (started : os.Started) (H : Type) (enc : TypeId × Value → H) :
    ReturnsInHanded {} Tryd.checked os 4 .any (fun w args => (Rows.merkleFreshSpec.pre enc Tryd.prog Tryd.f4 [] false w args ∧ laidMetH Tryd.prog Rows.merkleFreshRow.laid w) ∧ sizedMet enc Tryd.prog Tryd.f4 (OpenSpec.ofChange Rows.merkleFreshSpec) false w args)
      (Rows.merkleFreshSpec.post enc Tryd.prog Tryd.f4 false true false false) := by
  refine returnsInHanded_of_change_and (C := Tryd.checked) (X := fun w _ => laidMetH Tryd.prog Rows.merkleFreshRow.laid w) (fun _ _ _ hh h => h.of_heap hh) law09_MerkleFresh_own started (by kernel_rfl) (by kernel_rfl)
    (ChangeSpec.witness_shaped (enc := enc) (C := Tryd.checked) (os := os) (X := fun w _ => laidMetH Tryd.prog Rows.merkleFreshRow.laid w) false (World.laidAll Tryd.prog os Rows.merkleFreshRow.laid) #[.slice none 0 0, .int .i64 0] 8 (World.laidAll_os _ _ _)
      (World.shaped_of_ZipB (by kernel_rfl) (by kernel_rfl)) (by kernel_rfl) (by kernel_rfl) (by kernel_rfl)
      (by rw [MakeChecks.laidMetH_plain _ _ _ (by kernel_rfl)]; exact laidMet_laidAll _ (by kernel_rfl) (by kernel_rfl))) ?_
  intro W base args ds gs before hval hW _ hsz hL _
  exact M.law_contract (ss := [.sp 32 (.arr .u8 32), .sc .i]) (G := M.theG) (c := M.law09_MerkleFresh_c) (tb := 4) rfl (fun ds h => by
      match ds, h with
      | [d0, d1], _ => rfl) (by kernel_rfl) (by kernel_rfl) (by kernel_rfl) (by kernel_rfl) (by kernel_rfl) M.law09_MerkleFresh_ok law09_MerkleFresh_law hval hW hsz (M.globs (by rwa [MakeChecks.laidMetH_plain _ _ _ (by kernel_rfl)] at hL))
theorem merkleFresh_row : Rows.MerkleFreshSaid :=
  OpenClaim.holds_of_wide 4 Tryd.f4 rfl rfl rfl rfl rfl rfl rfl ⟨rfl, rfl, rfl, rfl, rfl⟩ rfl rfl rfl rfl rfl (by kernel_rfl) (by kernel_rfl) (by kernel_rfl)
    (of_decide_eq_true (by kernel_rfl)) (by unfold Func.isWrapper; first | (rw [if_pos (by decide +kernel)]; kernel_rfl) | (rw [if_neg (by decide +kernel)]; exact ⟨rfl, rfl⟩))
    (fun os started H enc _ => law09_MerkleFresh_lifted os started H enc)
theorem merkleFresh_card : Rows.MerkleFreshCardSaid :=
  Claim7.holds_tied_plain_at .later [] [.data] true (true, "3f586422b4bcc8e156c7a75eeef5cb184319f97d1faa08789495172fa4ab45b4") false merkleFresh_row (fun _ h => by cases h) (by kernel_rfl) (fun _ h => by cases h) merkleFresh_row_tie rfl ⟨rfl, rfl⟩ (by kernel_rfl) rfl
    (fun f fn hf hfn => by
      obtain rfl : f = 4 := Option.some.inj ((show Tryd.prog.funcNamed "moneyer/moneyerlaw09.MerkleFresh" = some 4 by kernel_rfl).symm.trans hf) |>.symm
      obtain rfl : fn = Tryd.f4 := (Option.some.inj ((show Tryd.prog.funcs[4]? = some Tryd.f4 by kernel_rfl).symm.trans hfn)).symm
      exact ⟨by kernel_rfl, fun j t ht => by
        have hp : Tryd.f4.params = #[22, 3] := by kernel_rfl
        rw [hp] at ht
        have hm : t ∈ [22, 3] := by simpa using Array.mem_of_getElem? ht
        have hall : ([22, 3].all fun u => !Tryd.prog.wantsStandIn u) = true := by kernel_rfl
        exact (show Tryd.prog.wantsStandIn t = false by simpa using List.all_eq_true.1 hall t hm)⟩)
    (by kernel_rfl)
#print axioms merkleFresh_card
end Go.Proofs.YtbdajagcinfeeaaDoor
