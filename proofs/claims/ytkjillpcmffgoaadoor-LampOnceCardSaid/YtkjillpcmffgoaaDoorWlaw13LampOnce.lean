/- The statement of LampOnce: for every input the law returns true, and each argument reads behind the call as it read before. No condition. -/
import Derived.KernelRfl
import Derived.Test.YtkjillpcmffgoaaDoorProg
import Derived.Test.YtkjillpcmffgoaaDoorRows
import Derived.Test.YtkjillpcmffgoaaDoorCards
import Derived.Test.YtkjillpcmffgoaaDoorTie
import Derived.WalkKit
import Derived.ProofKit
import Derived.Handy
import Derived.Lay
import Derived.SizedLaws
import Derived.SevenTiedAt
import Derived.Test.YtkjillpcmffgoaaDoorLe
import Derived.Test.YtkjillpcmffgoaaDoorFlamp
import Derived.Test.YtkjillpcmffgoaaDoorFlaw13
import Derived.Test.YtkjillpcmffgoaaDoorFref00
import Derived.Test.YtkjillpcmffgoaaDoorFref02
import Derived.Test.YtkjillpcmffgoaaDoorSwords
import Derived.Test.YtkjillpcmffgoaaDoorSshaS
import Derived.Test.YtkjillpcmffgoaaDoorSmerS
import Derived.Test.YtkjillpcmffgoaaDoorSlampS
import Derived.Test.YtkjillpcmffgoaaDoorSshaE
import Derived.Test.YtkjillpcmffgoaaDoorSshaK
import Derived.Test.YtkjillpcmffgoaaDoorSKL
set_option linter.unusedVariables false
set_option linter.unusedSimpArgs false
set_option autoImplicit false
namespace Go.Proofs.YtkjillpcmffgoaaDoor.M
open Go
noncomputable section
/-- moneyer/moneyerlaw13.LampOnce -/
def law13_LampOnce (key : Vector UInt8 32) (d : Vector UInt8 32) (e : Vector UInt8 32) (a : List UInt8) (b : List UInt8) (k_5 : UInt8) : Option (Bool) :=
  bif eqb (!(decide ((checkV key d a) = (0 : Int)))) false then (bif eqb (bif false then true else (!(decide ((checkV key e b) = (0 : Int))))) false then (bif bif false then true else (decide ((bitV d (k_5 % (32 : UInt8))) = (bitV e (k_5 % (32 : UInt8))))) then (some true)
        else (bif eqb (!(decide ((openE a) = (0 : Int)))) false then (bif eqb (bif false then true else (!(decide ((openE b) = (0 : Int))))) false then (bif eqb (bif false then true else (!(decide ((((List.length (openPV a)) : Nat) : Int) = (32 : Int))))) false then (bif bif false then true else (!(decide ((((List.length (openPV b)) : Nat) : Int) = (32 : Int)))) then (some false)
                else (if (List.length a) = (2048 : Nat) then
                  if (List.length b) = (2048 : Nat) then
                    if (List.length (partsV d a)) ≤ (1152921504606846976 : Nat) then
                      bif !(decide ((partsV d a) = (partsV e b))) then (if (List.length (partsV d a)) ≤ (1099511627776 : Nat) then
                          if (List.length (partsV e b)) ≤ (1099511627776 : Nat) then
                            bif eqb (decide ((Vector.toList (shaSum (partsV d a))) = (Vector.toList (shaSum (partsV e b))))) true then (some true)
                              else (some false)
                          else none
                        else none)
                        else (if ((0 : Int) ≤ (((UInt8.toNat (k_5 % (32 : UInt8))) : Nat) : Int)) ∧ ((((UInt8.toNat (k_5 % (32 : UInt8))) : Nat) : Int) < (((List.length (openPV a)) : Nat) : Int)) then
                          if (TY.chk (TY.arr EK.u8 (32 : Nat)) (RC.get (RC.p (32 : Nat) (openPV a)) ([(PE.i (Int.toNat (((UInt8.toNat (k_5 % (32 : UInt8))) : Nat) : Int)))] : List PE))) = true then
                            if (List.length (Vector.toList (PV.vecv EK.u8 (32 : Nat) (RC.get (RC.p (32 : Nat) (openPV a)) ([(PE.i (Int.toNat (((UInt8.toNat (k_5 % (32 : UInt8))) : Nat) : Int)))] : List PE))))) ≤ (1099511627776 : Nat) then
                              if ((0 : Int) ≤ (w64 ((w64 ((64 : Int) * (((UInt8.toNat (k_5 % (32 : UInt8))) : Nat) : Int))) + (32 : Int)))) ∧ (((w64 ((w64 ((64 : Int) * (((UInt8.toNat (k_5 % (32 : UInt8))) : Nat) : Int))) + (32 : Int))) ≤ (w64 ((w64 ((64 : Int) * (((UInt8.toNat (k_5 % (32 : UInt8))) : Nat) : Int))) + (64 : Int)))) ∧ ((w64 ((w64 ((64 : Int) * (((UInt8.toNat (k_5 % (32 : UInt8))) : Nat) : Int))) + (64 : Int))) ≤ (((List.length b) : Nat) : Int))) then
                                if (List.length (Vector.toList (shaSum (Vector.toList (PV.vecv EK.u8 (32 : Nat) (RC.get (RC.p (32 : Nat) (openPV a)) ([(PE.i (Int.toNat (((UInt8.toNat (k_5 % (32 : UInt8))) : Nat) : Int)))] : List PE))))))) ≤ (1152921504606846976 : Nat) then
                                  bif eqb (decide ((Vector.toList (shaSum (Vector.toList (PV.vecv EK.u8 (32 : Nat) (RC.get (RC.p (32 : Nat) (openPV a)) ([(PE.i (Int.toNat (((UInt8.toNat (k_5 % (32 : UInt8))) : Nat) : Int)))] : List PE)))))) = (List.take ((Int.toNat (w64 ((w64 ((64 : Int) * (((UInt8.toNat (k_5 % (32 : UInt8))) : Nat) : Int))) + (64 : Int)))) - (Int.toNat (w64 ((w64 ((64 : Int) * (((UInt8.toNat (k_5 % (32 : UInt8))) : Nat) : Int))) + (32 : Int))))) (List.drop (Int.toNat (w64 ((w64 ((64 : Int) * (((UInt8.toNat (k_5 % (32 : UInt8))) : Nat) : Int))) + (32 : Int)))) b)))) true then (some true)
                                    else (some false)
                                else none
                              else none
                            else none
                          else none
                        else none)
                    else none
                  else none
                else none))
              else (some false))
            else (some false))
          else (some false)))
      else (some true))
    else (some true)
theorem law13_LampOnce_q (key : Vector UInt8 32) (d : Vector UInt8 32) (e : Vector UInt8 32) (a : List UInt8) (b : List UInt8) (k_5 : UInt8) : law13_LampOnce key d e a b k_5 = (bif eqb (!(decide ((checkV key d a) = (0 : Int)))) false then (bif eqb (bif false then true else (!(decide ((checkV key e b) = (0 : Int))))) false then (bif bif false then true else (decide ((bitV d (k_5 % (32 : UInt8))) = (bitV e (k_5 % (32 : UInt8))))) then (some true)
        else (bif eqb (!(decide ((openE a) = (0 : Int)))) false then (bif eqb (bif false then true else (!(decide ((openE b) = (0 : Int))))) false then (bif eqb (bif false then true else (!(decide ((((List.length (openPV a)) : Nat) : Int) = (32 : Int))))) false then (bif bif false then true else (!(decide ((((List.length (openPV b)) : Nat) : Int) = (32 : Int)))) then (some false)
                else (if (List.length a) = (2048 : Nat) then
                  if (List.length b) = (2048 : Nat) then
                    if (List.length (partsV d a)) ≤ (1152921504606846976 : Nat) then
                      bif !(decide ((partsV d a) = (partsV e b))) then (if (List.length (partsV d a)) ≤ (1099511627776 : Nat) then
                          if (List.length (partsV e b)) ≤ (1099511627776 : Nat) then
                            bif eqb (decide ((Vector.toList (shaSum (partsV d a))) = (Vector.toList (shaSum (partsV e b))))) true then (some true)
                              else (some false)
                          else none
                        else none)
                        else (if ((0 : Int) ≤ (((UInt8.toNat (k_5 % (32 : UInt8))) : Nat) : Int)) ∧ ((((UInt8.toNat (k_5 % (32 : UInt8))) : Nat) : Int) < (((List.length (openPV a)) : Nat) : Int)) then
                          if (TY.chk (TY.arr EK.u8 (32 : Nat)) (RC.get (RC.p (32 : Nat) (openPV a)) ([(PE.i (Int.toNat (((UInt8.toNat (k_5 % (32 : UInt8))) : Nat) : Int)))] : List PE))) = true then
                            if (List.length (Vector.toList (PV.vecv EK.u8 (32 : Nat) (RC.get (RC.p (32 : Nat) (openPV a)) ([(PE.i (Int.toNat (((UInt8.toNat (k_5 % (32 : UInt8))) : Nat) : Int)))] : List PE))))) ≤ (1099511627776 : Nat) then
                              if ((0 : Int) ≤ (w64 ((w64 ((64 : Int) * (((UInt8.toNat (k_5 % (32 : UInt8))) : Nat) : Int))) + (32 : Int)))) ∧ (((w64 ((w64 ((64 : Int) * (((UInt8.toNat (k_5 % (32 : UInt8))) : Nat) : Int))) + (32 : Int))) ≤ (w64 ((w64 ((64 : Int) * (((UInt8.toNat (k_5 % (32 : UInt8))) : Nat) : Int))) + (64 : Int)))) ∧ ((w64 ((w64 ((64 : Int) * (((UInt8.toNat (k_5 % (32 : UInt8))) : Nat) : Int))) + (64 : Int))) ≤ (((List.length b) : Nat) : Int))) then
                                if (List.length (Vector.toList (shaSum (Vector.toList (PV.vecv EK.u8 (32 : Nat) (RC.get (RC.p (32 : Nat) (openPV a)) ([(PE.i (Int.toNat (((UInt8.toNat (k_5 % (32 : UInt8))) : Nat) : Int)))] : List PE))))))) ≤ (1152921504606846976 : Nat) then
                                  bif eqb (decide ((Vector.toList (shaSum (Vector.toList (PV.vecv EK.u8 (32 : Nat) (RC.get (RC.p (32 : Nat) (openPV a)) ([(PE.i (Int.toNat (((UInt8.toNat (k_5 % (32 : UInt8))) : Nat) : Int)))] : List PE)))))) = (List.take ((Int.toNat (w64 ((w64 ((64 : Int) * (((UInt8.toNat (k_5 % (32 : UInt8))) : Nat) : Int))) + (64 : Int)))) - (Int.toNat (w64 ((w64 ((64 : Int) * (((UInt8.toNat (k_5 % (32 : UInt8))) : Nat) : Int))) + (32 : Int))))) (List.drop (Int.toNat (w64 ((w64 ((64 : Int) * (((UInt8.toNat (k_5 % (32 : UInt8))) : Nat) : Int))) + (32 : Int)))) b)))) true then (some true)
                                    else (some false)
                                else none
                              else none
                            else none
                          else none
                        else none)
                    else none
                  else none
                else none))
              else (some false))
            else (some false))
          else (some false)))
      else (some true))
    else (some true)) := by kernel_rfl
theorem law13_LampOnce_spec (key d e : Vector UInt8 32) (a b : List UInt8) (k : UInt8) : law13_LampOnce key d e a b k = some true := by
  rw [law13_LampOnce_q]
  by_cases ca : ¬ checkV key d a = 0
  · rw [decide_eq_false ca]; rfl
  have ca := Classical.not_not.1 ca
  by_cases cb : ¬ checkV key e b = 0
  · rw [decide_eq_true ca, decide_eq_false cb]; rfl
  have cb := Classical.not_not.1 cb
  rw [decide_eq_true ca, decide_eq_true cb]
  by_cases hbit : bitV d (k % 32) = bitV e (k % 32)
  · rw [decide_eq_true hbit]; rfl
  obtain ⟨la, sa⟩ := check_0 ca
  obtain ⟨lb, sb⟩ := check_0 cb
  have oa : openE a = 0 := by rw [openE_eq, if_pos la]
  have ob : openE b = 0 := by rw [openE_eq, if_pos lb]
  have pa : openPV a = hArrs (openH a 32) := by rw [openPV_eq, if_pos la]
  have pb : openPV b = hArrs (openH b 32) := by rw [openPV_eq, if_pos lb]
  have na : (openPV a).length = 32 := by rw [pa, hArrs_len, openH_len]
  have nb : (openPV b).length = 32 := by rw [pb, hArrs_len, openH_len]
  have qa : (partsV d a).length = 2048 := by rw [partsV_eq, chkB_len la (Nat.le_refl _)]
  have qb : (partsV e b).length = 2048 := by rw [partsV_eq, chkB_len lb (Nat.le_refl _)]
  have hk : (k % 32).toNat < 32 := by rw [UInt8.toNat_mod]; exact Nat.mod_lt _ (by decide)
  have ek : k % 32 = UInt8.ofNat (k % 32).toNat := by rw [UInt8.ofNat_toNat]
  rw [decide_eq_false hbit, oa, ob, na, nb]
  generalize hn : (k % 32).toNat = n at hk ek
  rw [ek] at hbit
  have w1 : w64 ((64 : Int) * (n : Int)) = ((64 * n : Nat) : Int) := by rw [w64_id (by omega) (by omega)]; omega
  have w2 : w64 (((64 * n : Nat) : Int) + 32) = ((64 * n + 32 : Nat) : Int) := by rw [w64_id (by omega) (by omega)]; omega
  have w3 : w64 (((64 * n : Nat) : Int) + 64) = ((64 * n + 64 : Nat) : Int) := by rw [w64_id (by omega) (by omega)]; omega
  have hp := partL_len la hk
  have lt : ((partL a n).take 32).length = 32 := by rw [List.length_take, hp]; rfl
  have hg : RC.get (RC.p 32 (openPV a)) [PE.i n] = hArr (hash32 ((partL a n).take 32)) := by
    show PV.get ((openPV a).getD n .nilp) [] = _
    rw [PV.get_nil, pa, hArrs_getD _ (by rw [openH_len]; exact hk) (hash32 []), openH_get _ _ _ hk]
  have hv : PV.vecv .u8 32 (hArr (hash32 ((partL a n).take 32))) = hash32 ((partL a n).take 32) := rfl
  have hc : TY.chk (TY.arr EK.u8 32) (hArr (hash32 ((partL a n).take 32))) = true := rfl
  have e2 : List.take (64 * n + 64 - (64 * n + 32)) (List.drop (64 * n + 32) b) = (partL b n).drop 32 := by
    rw [partL, List.drop_take, List.drop_drop, show 64 * n + 64 - (64 * n + 32) = 64 - 32 by omega]
  simp only [w1, w2, w3, Int.toNat_natCast, hg, hv, hc, hash32_eq lt, e2, qa, qb, Vector.length_toList, lt, ← hL_eq, hL_len]
  rw [if_pos la, if_pos lb, if_pos (show (2048 : Nat) ≤ 1152921504606846976 by decide)]
  have b0 : (0 : Int) ≤ (n : Int) ∧ (n : Int) < ((32 : Nat) : Int) := ⟨by omega, by omega⟩
  have b1 : (0 : Int) ≤ ((64 * n + 32 : Nat) : Int) ∧ ((64 * n + 32 : Nat) : Int) ≤ ((64 * n + 64 : Nat) : Int) ∧ ((64 * n + 64 : Nat) : Int) ≤ ((b.length : Nat) : Int) := ⟨by omega, by omega, by omega⟩
  by_cases hpp : partsV d a = partsV e b
  · have := once_core la lb (by rw [← partsV_eq, ← partsV_eq, hpp]) hk hbit
    rw [decide_eq_true hpp, decide_eq_true this, if_pos b0, if_pos b1]
    rfl
  · have hh : hL (partsV d a) = hL (partsV e b) := by rw [hL_eq, hL_eq, partsV_eq, partsV_eq, sa, sb]
    rw [decide_eq_false hpp, decide_eq_true hh]
    rfl

end
end Go.Proofs.YtkjillpcmffgoaaDoor.M

namespace Go.Proofs.YtkjillpcmffgoaaDoor.M
open Go
noncomputable section
set_option maxRecDepth 100000
set_option maxHeartbeats 0
noncomputable def law13_LampOnce_T : Tbl := [(42, [], lamp_Check_c), (35, [], lamp_Bit_c), (41, [], law13_lives_c), (44, [], lamp_Open_c), (47, [], law13_parts_c), (20, [], ref00_Same_c), (48, [], ref02_Sum_c), (49, [], ref02_List_c)]
noncomputable def law13_LampOnce_C : CfgW := mkC Tryd.prog theG law13_LampOnce_T 108 0 false
def law13_LampOnce_lv : Nat → List Nat := fun i => []
noncomputable abbrev law13_LampOnce_b : Code := Tryd.f12.body.getD .skip
noncomputable abbrev law13_LampOnce_r : List ResultVar := Tryd.f12.results.toList
def law13_LampOnce_hs : List Nat := []

def law13_LampOnce_enc (r : Bool) : CallOut := ⟨.pv (.sc .b r), [], true, []⟩
theorem law13_LampOnce_e (key : Vector UInt8 32) (d : Vector UInt8 32) (e : Vector UInt8 32) (a : List UInt8) (b : List UInt8) (k_5 : UInt8) (Q : CallOut → Prop) : evalFnP law13_LampOnce_C law13_LampOnce_lv law13_LampOnce_r law13_LampOnce_hs law13_LampOnce_b [.pv (.arr .u8 32 key), .pv (.arr .u8 32 d), .pv (.arr .u8 32 e), .pv (.sl .u8 a), .pv (.sl .u8 b), .pv (.sc .u8 k_5)] [] Q =
    (((32 : UInt8) ≠ (0 : UInt8)) ∧ (condP (eqb (!(decide ((checkV key d a) = (0 : Int)))) false) (condP (eqb (bif false then true else (!(decide ((checkV key e b) = (0 : Int))))) false) (condP (bif false then true else (decide ((bitV d (k_5 % (32 : UInt8))) = (bitV e (k_5 % (32 : UInt8)))))) (Q (law13_LampOnce_enc true)) (condP (eqb (!(decide ((openE a) = (0 : Int)))) false) (condP (eqb (bif false then true else (!(decide ((openE b) = (0 : Int))))) false) (condP (eqb (bif false then true else (!(decide ((((List.length (openPV a)) : Nat) : Int) = (32 : Int))))) false) (condP (bif false then true else (!(decide ((((List.length (openPV b)) : Nat) : Int) = (32 : Int))))) (Q (law13_LampOnce_enc false)) (((List.length a) = (2048 : Nat)) ∧ (((List.length b) = (2048 : Nat)) ∧ (((List.length (partsV d a)) ≤ (1152921504606846976 : Nat)) ∧ (condP (!(decide ((partsV d a) = (partsV e b)))) (((List.length (partsV d a)) ≤ (1099511627776 : Nat)) ∧ (((List.length (partsV e b)) ≤ (1099511627776 : Nat)) ∧ (condP (eqb (decide ((Vector.toList (shaSum (partsV d a))) = (Vector.toList (shaSum (partsV e b))))) true) (Q (law13_LampOnce_enc true)) (Q (law13_LampOnce_enc false))))) ((((0 : Int) ≤ (((UInt8.toNat (k_5 % (32 : UInt8))) : Nat) : Int)) ∧ ((((UInt8.toNat (k_5 % (32 : UInt8))) : Nat) : Int) < (((List.length (openPV a)) : Nat) : Int))) ∧ (((TY.chk (TY.arr EK.u8 (32 : Nat)) (RC.get (RC.p (32 : Nat) (openPV a)) ([(PE.i (Int.toNat (((UInt8.toNat (k_5 % (32 : UInt8))) : Nat) : Int)))] : List PE))) = true) ∧ (((List.length (Vector.toList (PV.vecv EK.u8 (32 : Nat) (RC.get (RC.p (32 : Nat) (openPV a)) ([(PE.i (Int.toNat (((UInt8.toNat (k_5 % (32 : UInt8))) : Nat) : Int)))] : List PE))))) ≤ (1099511627776 : Nat)) ∧ ((((0 : Int) ≤ (w64 ((w64 ((64 : Int) * (((UInt8.toNat (k_5 % (32 : UInt8))) : Nat) : Int))) + (32 : Int)))) ∧ (((w64 ((w64 ((64 : Int) * (((UInt8.toNat (k_5 % (32 : UInt8))) : Nat) : Int))) + (32 : Int))) ≤ (w64 ((w64 ((64 : Int) * (((UInt8.toNat (k_5 % (32 : UInt8))) : Nat) : Int))) + (64 : Int)))) ∧ ((w64 ((w64 ((64 : Int) * (((UInt8.toNat (k_5 % (32 : UInt8))) : Nat) : Int))) + (64 : Int))) ≤ (((List.length b) : Nat) : Int)))) ∧ (((List.length (Vector.toList (shaSum (Vector.toList (PV.vecv EK.u8 (32 : Nat) (RC.get (RC.p (32 : Nat) (openPV a)) ([(PE.i (Int.toNat (((UInt8.toNat (k_5 % (32 : UInt8))) : Nat) : Int)))] : List PE))))))) ≤ (1152921504606846976 : Nat)) ∧ (condP (eqb (decide ((Vector.toList (shaSum (Vector.toList (PV.vecv EK.u8 (32 : Nat) (RC.get (RC.p (32 : Nat) (openPV a)) ([(PE.i (Int.toNat (((UInt8.toNat (k_5 % (32 : UInt8))) : Nat) : Int)))] : List PE)))))) = (List.take ((Int.toNat (w64 ((w64 ((64 : Int) * (((UInt8.toNat (k_5 % (32 : UInt8))) : Nat) : Int))) + (64 : Int)))) - (Int.toNat (w64 ((w64 ((64 : Int) * (((UInt8.toNat (k_5 % (32 : UInt8))) : Nat) : Int))) + (32 : Int))))) (List.drop (Int.toNat (w64 ((w64 ((64 : Int) * (((UInt8.toNat (k_5 % (32 : UInt8))) : Nat) : Int))) + (32 : Int)))) b)))) true) (Q (law13_LampOnce_enc true)) (Q (law13_LampOnce_enc false))))))))))))) (Q (law13_LampOnce_enc false))) (Q (law13_LampOnce_enc false))) (Q (law13_LampOnce_enc false)))) (Q (law13_LampOnce_enc true))) (Q (law13_LampOnce_enc true)))) := by kernel_rfl
theorem law13_LampOnce_w (key : Vector UInt8 32) (d : Vector UInt8 32) (e : Vector UInt8 32) (a : List UInt8) (b : List UInt8) (k_5 : UInt8) {r} {Q : CallOut → Prop} (h : law13_LampOnce key d e a b k_5 = some r) (hQ : Q (law13_LampOnce_enc r)) : evalFnP law13_LampOnce_C law13_LampOnce_lv law13_LampOnce_r law13_LampOnce_hs law13_LampOnce_b [.pv (.arr .u8 32 key), .pv (.arr .u8 32 d), .pv (.arr .u8 32 e), .pv (.sl .u8 a), .pv (.sl .u8 b), .pv (.sc .u8 k_5)] [] Q :=
  Eq.mpr (law13_LampOnce_e key d e a b k_5 Q) (have h := (law13_LampOnce_q key d e a b k_5).symm.trans h; ⟨by decide +kernel, cond_ok h (fun h => cond_ok h (fun h => cond_ok h (fun h => ret_ok (Q := Q) (e := law13_LampOnce_enc) h hQ) (fun h => cond_ok h (fun h => cond_ok h (fun h => cond_ok h (fun h => cond_ok h (fun h => ret_ok (Q := Q) (e := law13_LampOnce_enc) h hQ) (fun h => ite_ok h fun hc0 h => ite_ok h fun hc1 h => ite_ok h fun hc2 h => cond_ok h (fun h => ite_ok h fun hc3 h => ite_ok h fun hc4 h => cond_ok h (fun h => ret_ok (Q := Q) (e := law13_LampOnce_enc) h hQ) (fun h => ret_ok (Q := Q) (e := law13_LampOnce_enc) h hQ)) (fun h => ite_ok h fun hc3 h => ite_ok h fun hc4 h => ite_ok h fun hc5 h => ite_ok h fun hc6 h => ite_ok h fun hc7 h => cond_ok h (fun h => ret_ok (Q := Q) (e := law13_LampOnce_enc) h hQ) (fun h => ret_ok (Q := Q) (e := law13_LampOnce_enc) h hQ)))) (fun h => ret_ok (Q := Q) (e := law13_LampOnce_enc) h hQ)) (fun h => ret_ok (Q := Q) (e := law13_LampOnce_enc) h hQ)) (fun h => ret_ok (Q := Q) (e := law13_LampOnce_enc) h hQ))) (fun h => ret_ok (Q := Q) (e := law13_LampOnce_enc) h hQ)) (fun h => ret_ok (Q := Q) (e := law13_LampOnce_enc) h hQ)⟩)
def law13_LampOnce_c : Ans
  | [.pv (.arr .u8 32 key), .pv (.arr .u8 32 d), .pv (.arr .u8 32 e), .pv (.sl .u8 a), .pv (.sl .u8 b), .pv (.sc .u8 k_5)], [] => some (none, law13_LampOnce_enc (true))
  | _, _ => none
theorem law13_LampOnce_tok : TblOK Tryd.prog theG law13_LampOnce_T := .cons ⟨by kernel_rfl, lamp_Check_ok⟩ (.cons ⟨by kernel_rfl, lamp_Bit_ok⟩ (.cons ⟨by kernel_rfl, law13_lives_ok⟩ (.cons ⟨by kernel_rfl, lamp_Open_ok⟩ (.cons ⟨by kernel_rfl, law13_parts_ok⟩ (.cons ⟨by kernel_rfl, ref00_Same_ok⟩ (.cons ⟨by kernel_rfl, ref02_Sum_ok⟩ (.cons ⟨by kernel_rfl, ref02_List_ok⟩ (.nil))))))))
theorem law13_LampOnce_ok : FnOK Tryd.prog theG 12 (unW law13_LampOnce_c) := by
  refine FnOK.ofC (T := law13_LampOnce_T) (nt := 108) (np := 0) (mv := []) (nf := false) (hs := law13_LampOnce_hs) (fn := Tryd.f12) (body := law13_LampOnce_b) law13_LampOnce_tok (by kernel_rfl) (by kernel_rfl) (by kernel_rfl) (by kernel_rfl) (c := law13_LampOnce_c) (lv := law13_LampOnce_lv) ?_
  intro xs mem p out h hp
  unfold law13_LampOnce_c at h
  split at h
  · cases h
    exact law13_LampOnce_w _ _ _ _ _ _ (law13_LampOnce_spec _ _ _ _ _ _) rfl
  · cases h
end
end Go.Proofs.YtkjillpcmffgoaaDoor.M

namespace Go.Proofs.YtkjillpcmffgoaaDoor
open Go Go.ChangeShapes Go.WideShapes Go.ChangeAt Go.RowKit
open Go.Proofs.YtkjillpcmffgoaaDoor
theorem law13_LampOnce_own : ownKnob Tryd.prog.godebug = none := by kernel_rfl
theorem law13_LampOnce_law : ∀ ys : List M.PV, M.FitL [.arr .u8 32, .arr .u8 32, .arr .u8 32, .sl .u8, .sl .u8, .sc .u8] ys → ∃ p out, M.law13_LampOnce_c (ys.map .pv) [] = some (p, out) ∧ p.h ∧ out.val = .pv (.sc .b true) := by
  rintro ys ⟨_, _, rfl, ⟨x0, rfl, hx0⟩, ⟨_, _, rfl, ⟨x1, rfl, hx1⟩, ⟨_, _, rfl, ⟨x2, rfl, hx2⟩, ⟨_, _, rfl, ⟨x3, rfl, hx3, lx3⟩, ⟨_, _, rfl, ⟨x4, rfl, hx4, lx4⟩, ⟨_, _, rfl, ⟨x5, rfl, hx5⟩, rfl⟩⟩⟩⟩⟩⟩
  exact ⟨_, _, rfl, trivial, rfl⟩
set_option maxRecDepth 100000 in
theorem law13_LampOnce_lifted (os : Os) (started : os.Started) (H : Type) (enc : TypeId × Value → H) :
    ReturnsInHanded {} Tryd.checked os 12 .any (fun w args => (Rows.lampOnceSpec.pre enc Tryd.prog Tryd.f12 [] false w args ∧ laidMetH Tryd.prog Rows.lampOnceRow.laid w) ∧ sizedMet enc Tryd.prog Tryd.f12 (OpenSpec.ofChange Rows.lampOnceSpec) false w args)
      (Rows.lampOnceSpec.post enc Tryd.prog Tryd.f12 false true false false) := by
  refine returnsInHanded_of_change_and (C := Tryd.checked) (X := fun w _ => laidMetH Tryd.prog Rows.lampOnceRow.laid w) (fun _ _ _ hh h => h.of_heap hh) law13_LampOnce_own started (by kernel_rfl) (by kernel_rfl)
    (ChangeSpec.witness_shaped (enc := enc) (C := Tryd.checked) (os := os) (X := fun w _ => laidMetH Tryd.prog Rows.lampOnceRow.laid w) false (World.laidAll Tryd.prog os Rows.lampOnceRow.laid) #[.agg (Array.replicate 32 (.int .u8 0)), .agg (Array.replicate 32 (.int .u8 0)), .agg (Array.replicate 32 (.int .u8 0)), .slice none 0 0, .slice none 0 0, .int .u8 0] 8 (World.laidAll_os _ _ _)
      (World.shaped_of_ZipB (by kernel_rfl) (by kernel_rfl)) (by kernel_rfl) (by kernel_rfl) (by kernel_rfl)
      (by rw [MakeChecks.laidMetH_plain _ _ _ (by kernel_rfl)]; exact laidMet_laidAll _ (by kernel_rfl) (by kernel_rfl))) ?_
  intro W base args ds gs before hval hW _ hsz hL _
  exact M.law_contract (ss := [.arr .u8 32, .arr .u8 32, .arr .u8 32, .sl .u8, .sl .u8, .sc .u8]) (G := M.theG) (c := M.law13_LampOnce_c) (tb := 4) rfl (fun ds h => by
      match ds, h with
      | [d0, d1, d2, d3, d4, d5], _ => rfl) (by kernel_rfl) (by kernel_rfl) (by kernel_rfl) (by kernel_rfl) (by kernel_rfl) M.law13_LampOnce_ok law13_LampOnce_law hval hW hsz (M.globs (by rwa [MakeChecks.laidMetH_plain _ _ _ (by kernel_rfl)] at hL))
theorem lampOnce_row : Rows.LampOnceSaid :=
  OpenClaim.holds_of_wide 12 Tryd.f12 rfl rfl rfl rfl rfl rfl rfl ⟨rfl, rfl, rfl, rfl, rfl⟩ rfl rfl rfl rfl rfl (by kernel_rfl) (by kernel_rfl) (by kernel_rfl)
    (of_decide_eq_true (by kernel_rfl)) (by unfold Func.isWrapper; first | (rw [if_pos (by decide +kernel)]; kernel_rfl) | (rw [if_neg (by decide +kernel)]; exact ⟨rfl, rfl⟩))
    (fun os started H enc _ => law13_LampOnce_lifted os started H enc)
theorem lampOnce_card : Rows.LampOnceCardSaid :=
  Claim7.holds_tied_plain_at .later [] [.data] true (true, "309ffbb7a45fc8f63b017b00e1d958320a56bfcbda7dd92db1a0903d53958375") false lampOnce_row (fun _ h => by cases h) (by kernel_rfl) (fun _ h => by cases h) lampOnce_row_tie rfl ⟨rfl, rfl⟩ (by kernel_rfl) rfl
    (fun f fn hf hfn => by
      obtain rfl : f = 12 := Option.some.inj ((show Tryd.prog.funcNamed "moneyer/moneyerlaw13.LampOnce" = some 12 by kernel_rfl).symm.trans hf) |>.symm
      obtain rfl : fn = Tryd.f12 := (Option.some.inj ((show Tryd.prog.funcs[12]? = some Tryd.f12 by kernel_rfl).symm.trans hfn)).symm
      exact ⟨by kernel_rfl, fun j t ht => by
        have hp : Tryd.f12.params = #[32, 32, 32, 29, 29, 5] := by kernel_rfl
        rw [hp] at ht
        have hm : t ∈ [32, 32, 32, 29, 29, 5] := by simpa using Array.mem_of_getElem? ht
        have hall : ([32, 32, 32, 29, 29, 5].all fun u => !Tryd.prog.wantsStandIn u) = true := by kernel_rfl
        exact (show Tryd.prog.wantsStandIn t = false by simpa using List.all_eq_true.1 hall t hm)⟩)
    (by kernel_rfl)
#print axioms lampOnce_card
end Go.Proofs.YtkjillpcmffgoaaDoor
