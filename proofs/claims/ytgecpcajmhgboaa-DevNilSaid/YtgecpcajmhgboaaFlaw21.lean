/- Part of the proofs: what functions of the program do: plain functions, and the walks that show it. No condition. -/
import Derived.KernelRfl
import Derived.Test.YtgecpcajmhgboaaProg
import Derived.Test.YtgecpcajmhgboaaLe
import Derived.Test.YtgecpcajmhgboaaFdev
import Derived.Test.YtgecpcajmhgboaaSwords
import Derived.Test.YtgecpcajmhgboaaSdevS
import Derived.Test.YtgecpcajmhgboaaSdevT
import Derived.Test.YtgecpcajmhgboaaSdevA
import Derived.Test.YtgecpcajmhgboaaSdevR
import Derived.Test.YtgecpcajmhgboaaSdevD
set_option linter.unusedVariables false
set_option linter.unusedSimpArgs false
set_option autoImplicit false
namespace Go.Proofs.Ytgecpcajmhgboaa.M
open Go
noncomputable section
/-- the loop 0 of moneyer/moneyerlaw21.works -/
def law21_works_h0 : Nat → Int → Int → Int → Int → Bool → Int → Bool → (List UInt8) → (List PV) → (List (PV × PV)) → (List PV) → Option (Bool)
  | 0, _, _, _, _, _, _, _, _, _, _, _ => none
  | k + 1, e, f, i, d, d1, d2, d3, b, dm, dm', dm'' => bif decide (i < (((List.length b) : Nat) : Int)) then (if ((0 : Int) ≤ i) ∧ (i < (((List.length b) : Nat) : Int)) then
        law21_works_h0 k e f (w64 (i + (1 : Int))) d d1 d2 d3 (List.set b (Int.toNat i) (1 : UInt8)) dm dm' dm''
      else none)
      else (if dvW (DV.mk dm dm' dm'' d d1 d2 d3) then
        if dvW (Prod.snd (dvWrite (DV.mk dm dm' dm'' d d1 d2 d3) (0 : Int) b)) then
          if dvC (Prod.snd (dvOn (Prod.snd (dvWrite (DV.mk dm dm' dm'' d d1 d2 d3) (0 : Int) b)) (0 : Int) (3 : Int))) then
            bif eqb (decide (e = (2 : Int))) true then (bif eqb (bif true then (decide (f = (0 : Int))) else false) true then (bif eqb (bif true then (decide ((Prod.fst (dvWrite (DV.mk dm dm' dm'' d d1 d2 d3) (0 : Int) b)) = (0 : Int))) else false) true then (bif eqb (bif true then (decide ((Prod.fst (dvOn (Prod.snd (dvWrite (DV.mk dm dm' dm'' d d1 d2 d3) (0 : Int) b)) (0 : Int) (3 : Int))) = (0 : Int))) else false) true then (bif eqb (bif true then (decide ((Prod.snd (dvRead (Prod.snd (dvOn (Prod.snd (dvWrite (DV.mk dm dm' dm'' d d1 d2 d3) (0 : Int) b)) (0 : Int) (3 : Int))) (0 : Int))) = (0 : Int))) else false) true then (bif eqb (bif true then (decide ((((List.length (Prod.fst (dvRead (Prod.snd (dvOn (Prod.snd (dvWrite (DV.mk dm dm' dm'' d d1 d2 d3) (0 : Int) b)) (0 : Int) (3 : Int))) (0 : Int)))) : Nat) : Int) = (128 : Int))) else false) true then (if ((0 : Int) ≤ (2 : Int)) ∧ ((2 : Int) < (((List.length (Prod.fst (dvRead (Prod.snd (dvOn (Prod.snd (dvWrite (DV.mk dm dm' dm'' d d1 d2 d3) (0 : Int) b)) (0 : Int) (3 : Int))) (0 : Int)))) : Nat) : Int)) then
                          bif eqb (bif true then (decide ((List.getD (Prod.fst (dvRead (Prod.snd (dvOn (Prod.snd (dvWrite (DV.mk dm dm' dm'' d d1 d2 d3) (0 : Int) b)) (0 : Int) (3 : Int))) (0 : Int))) (2 : Nat) (0 : UInt8)) = (1 : UInt8))) else false) true then (if ((0 : Int) ≤ (3 : Int)) ∧ ((3 : Int) < (((List.length (Prod.fst (dvRead (Prod.snd (dvOn (Prod.snd (dvWrite (DV.mk dm dm' dm'' d d1 d2 d3) (0 : Int) b)) (0 : Int) (3 : Int))) (0 : Int)))) : Nat) : Int)) then
                              some (bif true then (decide ((List.getD (Prod.fst (dvRead (Prod.snd (dvOn (Prod.snd (dvWrite (DV.mk dm dm' dm'' d d1 d2 d3) (0 : Int) b)) (0 : Int) (3 : Int))) (0 : Int))) (3 : Nat) (0 : UInt8)) = (0 : UInt8))) else false)
                            else none)
                            else (some false)
                        else none)
                        else (some false))
                      else (some false))
                    else (some false))
                  else (some false))
                else (some false))
              else (some false)
          else none
        else none
      else none)
theorem law21_works_h0_q (k : Nat) (e : Int) (f : Int) (i : Int) (d : Int) (d1 : Bool) (d2 : Int) (d3 : Bool) (b : List UInt8) (dm : List PV) (dm' : List (PV × PV)) (dm'' : List PV) : law21_works_h0 (k + 1) e f i d d1 d2 d3 b dm dm' dm'' =
  (bif decide (i < (((List.length b) : Nat) : Int)) then (if ((0 : Int) ≤ i) ∧ (i < (((List.length b) : Nat) : Int)) then
        law21_works_h0 k e f (w64 (i + (1 : Int))) d d1 d2 d3 (List.set b (Int.toNat i) (1 : UInt8)) dm dm' dm''
      else none)
      else (if dvW (DV.mk dm dm' dm'' d d1 d2 d3) then
        if dvW (Prod.snd (dvWrite (DV.mk dm dm' dm'' d d1 d2 d3) (0 : Int) b)) then
          if dvC (Prod.snd (dvOn (Prod.snd (dvWrite (DV.mk dm dm' dm'' d d1 d2 d3) (0 : Int) b)) (0 : Int) (3 : Int))) then
            bif eqb (decide (e = (2 : Int))) true then (bif eqb (bif true then (decide (f = (0 : Int))) else false) true then (bif eqb (bif true then (decide ((Prod.fst (dvWrite (DV.mk dm dm' dm'' d d1 d2 d3) (0 : Int) b)) = (0 : Int))) else false) true then (bif eqb (bif true then (decide ((Prod.fst (dvOn (Prod.snd (dvWrite (DV.mk dm dm' dm'' d d1 d2 d3) (0 : Int) b)) (0 : Int) (3 : Int))) = (0 : Int))) else false) true then (bif eqb (bif true then (decide ((Prod.snd (dvRead (Prod.snd (dvOn (Prod.snd (dvWrite (DV.mk dm dm' dm'' d d1 d2 d3) (0 : Int) b)) (0 : Int) (3 : Int))) (0 : Int))) = (0 : Int))) else false) true then (bif eqb (bif true then (decide ((((List.length (Prod.fst (dvRead (Prod.snd (dvOn (Prod.snd (dvWrite (DV.mk dm dm' dm'' d d1 d2 d3) (0 : Int) b)) (0 : Int) (3 : Int))) (0 : Int)))) : Nat) : Int) = (128 : Int))) else false) true then (if ((0 : Int) ≤ (2 : Int)) ∧ ((2 : Int) < (((List.length (Prod.fst (dvRead (Prod.snd (dvOn (Prod.snd (dvWrite (DV.mk dm dm' dm'' d d1 d2 d3) (0 : Int) b)) (0 : Int) (3 : Int))) (0 : Int)))) : Nat) : Int)) then
                          bif eqb (bif true then (decide ((List.getD (Prod.fst (dvRead (Prod.snd (dvOn (Prod.snd (dvWrite (DV.mk dm dm' dm'' d d1 d2 d3) (0 : Int) b)) (0 : Int) (3 : Int))) (0 : Int))) (2 : Nat) (0 : UInt8)) = (1 : UInt8))) else false) true then (if ((0 : Int) ≤ (3 : Int)) ∧ ((3 : Int) < (((List.length (Prod.fst (dvRead (Prod.snd (dvOn (Prod.snd (dvWrite (DV.mk dm dm' dm'' d d1 d2 d3) (0 : Int) b)) (0 : Int) (3 : Int))) (0 : Int)))) : Nat) : Int)) then
                              some (bif true then (decide ((List.getD (Prod.fst (dvRead (Prod.snd (dvOn (Prod.snd (dvWrite (DV.mk dm dm' dm'' d d1 d2 d3) (0 : Int) b)) (0 : Int) (3 : Int))) (0 : Int))) (3 : Nat) (0 : UInt8)) = (0 : UInt8))) else false)
                            else none)
                            else (some false)
                        else none)
                        else (some false))
                      else (some false))
                    else (some false))
                  else (some false))
                else (some false))
              else (some false)
          else none
        else none
      else none)) := by kernel_rfl
/-- moneyer/moneyerlaw21.works -/
def law21_works (k : Nat)  : Option (Bool) :=
  law21_works_h0 k (2 : Int) (0 : Int) (0 : Int) (DV.done (dvNew (8 : Int))) (DV.cut (dvNew (8 : Int))) (DV.left (dvNew (8 : Int))) (DV.dark (dvNew (8 : Int))) (List.replicate (128 : Nat) (0 : UInt8)) (DV.now (dvNew (8 : Int))) (DV.sure (dvNew (8 : Int))) (DV.writes (dvNew (8 : Int)))
theorem law21_works_q (k : Nat)  : law21_works k  = (law21_works_h0 k (2 : Int) (0 : Int) (0 : Int) (DV.done (dvNew (8 : Int))) (DV.cut (dvNew (8 : Int))) (DV.left (dvNew (8 : Int))) (DV.dark (dvNew (8 : Int))) (List.replicate (128 : Nat) (0 : UInt8)) (DV.now (dvNew (8 : Int))) (DV.sure (dvNew (8 : Int))) (DV.writes (dvNew (8 : Int)))) := by kernel_rfl
def wD0 : AD := ⟨List.replicate 8 zsec, [], 0, false, 0, false⟩
def wb1 : List UInt8 := List.replicate 128 1
def wD1 : AD := ⟨List.replicate 8 zsec, [(0, secL wb1)], 1, false, -1, false⟩
def wD2 : AD := ⟨(List.replicate 8 zsec).set 0 (tornV zsec (secL wb1) 3), [], 1, false, 0, false⟩
theorem wD0_eq : dvNew 8 = wD0.conc := by rw [dvNew_eq, adNew_eq]; rfl
theorem wD0_ok : wD0.ok := ⟨fun p hp => (by cases hp), by decide⟩
theorem w_write : adWrite wD0 0 wb1 = (0, wD1) := by
  have hs : wD0.stateE 0 = 0 := rfl
  rw [adWrite_eq, if_neg (show ¬ (wb1.length ≠ 128) from fun h => h (by simp [wb1])), hs, if_neg (show ¬ ((0 : Int) ≠ 0) from fun h => h rfl), if_neg (show ¬ (wD0.cut = true ∧ wD0.left = 0) from fun h => by cases h.1)]
  rfl
theorem w_on : adOn wD1 0 3 = (0, wD2) := by
  rw [adOn_eq, if_neg (show ¬ ((0 : Int) < 0 ∨ (3 : Int) < 0) by omega)]
  rfl
theorem w_read : adRead wD2 0 = ((tornV zsec (secL wb1) 3).toList, 0) := by
  rw [adRead_eq, if_pos (show wD2.stateE 0 = 0 from rfl)]
  rfl
theorem wD1_ok : wD1.ok := by have := adWrite_ok wD0_ok 0 wb1; rw [w_write] at this; exact this
theorem wD2_ok : wD2.ok := by have := adOn_ok wD1_ok 0 3; rw [w_on] at this; exact this
theorem w_end (k : Nat) : law21_works_h0 (k + 1) 2 0 ((128 : Nat) : Int) wD0.conc.done wD0.conc.cut wD0.conc.left wD0.conc.dark wb1 wD0.conc.now wD0.conc.sure wD0.conc.writes = some true := by
  have e1 : dvWrite wD0.conc 0 wb1 = (0, wD1.conc) := by rw [dvWrite_conc wD0_ok, w_write]
  have e2 : dvOn wD1.conc 0 3 = (0, wD2.conc) := by rw [dvOn_conc wD1_ok, w_on]
  have e3 : dvRead wD2.conc 0 = ((tornV zsec (secL wb1) 3).toList, 0) := by rw [dvRead_conc wD2_ok, w_read]
  have e0 : DV.mk wD0.conc.now wD0.conc.sure wD0.conc.writes wD0.conc.done wD0.conc.cut wD0.conc.left wD0.conc.dark = wD0.conc := rfl
  have hl : (tornV zsec (secL wb1) 3).toList.length = 128 := by simp
  have h2 : List.getD (tornV zsec (secL wb1) 3).toList 2 0 = 1 := by
    rw [vget_get _ _ _ (by decide)]
    simp [tornV, secL, wb1]
  have h3 : List.getD (tornV zsec (secL wb1) 3).toList 3 0 = 0 := by
    rw [vget_get _ _ _ (by decide)]
    simp [tornV, zsec]
  rw [law21_works_h0_q, decide_eq_false (show ¬ ((128 : Nat) : Int) < ((wb1.length : Nat) : Int) by simp [wb1]), e0, e1, e2, e3, hl, h2, h3]
  simp only [cond_false]
  rw [if_pos (AD.dvW wD0_ok (by decide)), if_pos (AD.dvW wD1_ok (by decide)), if_pos (AD.dvC wD2_ok)]
  rfl
theorem w_loop (k : Nat) : ∀ (m i : Nat), i + m = 128 → law21_works_h0 (m + (k + 1)) 2 0 (i : Int) wD0.conc.done wD0.conc.cut wD0.conc.left wD0.conc.dark (List.replicate i 1 ++ List.replicate m 0) wD0.conc.now wD0.conc.sure wD0.conc.writes = some true
  | 0, i, h => by
    obtain rfl : i = 128 := by omega
    rw [List.replicate_zero, List.append_nil, Nat.zero_add]
    exact w_end k
  | m + 1, i, h => by
    have hs : List.set (List.replicate i (1 : UInt8) ++ List.replicate (m + 1) 0) i 1 = List.replicate (i + 1) 1 ++ List.replicate m 0 := by
      rw [List.set_append_right _ _ (by simp)]
      simp only [List.length_replicate, Nat.sub_self]
      rw [List.replicate_succ (n := m), List.set_cons_zero, List.replicate_succ', List.append_assoc]
      rfl
    rw [show m + 1 + (k + 1) = (m + (k + 1)) + 1 by omega, law21_works_h0_q, decide_eq_true (by simp; omega)]
    simp only [cond_true]
    rw [if_pos ⟨by omega, by simp; omega⟩, w64_id (by omega) (by omega), Int.toNat_natCast, hs, show ((i : Nat) : Int) + 1 = ((i + 1 : Nat) : Int) by omega]
    exact w_loop k m (i + 1) (by omega)
theorem law21_works_spec : ∃ k, law21_works k = some true := by
  refine ⟨128 + 1, ?_⟩
  rw [law21_works_q, wD0_eq]
  have := w_loop 0 128 0 rfl
  exact this

end
end Go.Proofs.Ytgecpcajmhgboaa.M

namespace Go.Proofs.Ytgecpcajmhgboaa.M
open Go
noncomputable section
set_option maxRecDepth 100000
set_option maxHeartbeats 0
noncomputable def law21_works_T : Tbl := [(8, [], dev_New_c), (11, [true, false, false], dev_Write_c), (18, [true, false, false], dev_On_c), (15, [true, false], dev_Read_c)]
noncomputable def law21_works_C : CfgW := mkC Try.prog noG law21_works_T 74 0 false
def law21_works_lv : Nat → List Nat := fun i => bif Nat.beq i 0 then [2, 3, 4, 5, 6] else []
noncomputable abbrev law21_works_b : Code := Try.f13.body.getD .skip
noncomputable abbrev law21_works_r : List ResultVar := Try.f13.results.toList
def law21_works_hs : List Nat := []

def law21_works_enc (r : Bool) : CallOut := ⟨.pv (.sc .b r), [], true, []⟩
def law21_works_s0 (e : Int) (f : Int) (i : Int) (d : Int) (d1 : Bool) (d2 : Int) (d3 : Bool) (b : List UInt8) (dm : List PV) (dm' : List (PV × PV)) (dm'' : List PV) : St := ⟨[(2, .pv (.sc .i e)), (3, .p 60000 []), (4, .pv (.sc .i f)), (5, .o 60001), (6, .pv (.sc .i i))], [(60000, .box (.st [.o 60002, .o 60003, .o 60004, .pv (.sc .i d), .pv (.sc .b d1), .pv (.sc .i d2), .pv (.sc .b d3)])), (60001, .row (.s .u8 b) true), (60002, .row (.p 128 dm) false), (60003, .map dm'), (60004, .row (.p 129 dm'') false)]⟩
theorem law21_works_g0 (e : Int) (f : Int) (i : Int) (d : Int) (d1 : Bool) (d2 : Int) (d3 : Bool) (b : List UInt8) (dm : List PV) (dm' : List (PV × PV)) (dm'' : List PV) (Q : CallOut → Prop) : headRound law21_works_C law21_works_lv [true, true, true, true, false, true, false] law21_works_b (law21_works_s0 e f i d d1 d2 d3 b dm dm' dm'') (fnK law21_works_C law21_works_r law21_works_hs Q) =
    (condP (decide (i < (((List.length b) : Nat) : Int))) ((((0 : Int) ≤ i) ∧ (i < (((List.length b) : Nat) : Int))) ∧ (headP law21_works_C law21_works_lv [true, true, true, true, false, true, false] law21_works_b (law21_works_s0 e f (w64 (i + (1 : Int))) d d1 d2 d3 (List.set b (Int.toNat i) (1 : UInt8)) dm dm' dm'') (fnK law21_works_C law21_works_r law21_works_hs Q))) ((dvW (DV.mk dm dm' dm'' d d1 d2 d3)) ∧ ((dvW (Prod.snd (dvWrite (DV.mk dm dm' dm'' d d1 d2 d3) (0 : Int) b))) ∧ ((dvC (Prod.snd (dvOn (Prod.snd (dvWrite (DV.mk dm dm' dm'' d d1 d2 d3) (0 : Int) b)) (0 : Int) (3 : Int)))) ∧ (condP (eqb (decide (e = (2 : Int))) true) (condP (eqb (bif true then (decide (f = (0 : Int))) else false) true) (condP (eqb (bif true then (decide ((Prod.fst (dvWrite (DV.mk dm dm' dm'' d d1 d2 d3) (0 : Int) b)) = (0 : Int))) else false) true) (condP (eqb (bif true then (decide ((Prod.fst (dvOn (Prod.snd (dvWrite (DV.mk dm dm' dm'' d d1 d2 d3) (0 : Int) b)) (0 : Int) (3 : Int))) = (0 : Int))) else false) true) (condP (eqb (bif true then (decide ((Prod.snd (dvRead (Prod.snd (dvOn (Prod.snd (dvWrite (DV.mk dm dm' dm'' d d1 d2 d3) (0 : Int) b)) (0 : Int) (3 : Int))) (0 : Int))) = (0 : Int))) else false) true) (condP (eqb (bif true then (decide ((((List.length (Prod.fst (dvRead (Prod.snd (dvOn (Prod.snd (dvWrite (DV.mk dm dm' dm'' d d1 d2 d3) (0 : Int) b)) (0 : Int) (3 : Int))) (0 : Int)))) : Nat) : Int) = (128 : Int))) else false) true) ((((0 : Int) ≤ (2 : Int)) ∧ ((2 : Int) < (((List.length (Prod.fst (dvRead (Prod.snd (dvOn (Prod.snd (dvWrite (DV.mk dm dm' dm'' d d1 d2 d3) (0 : Int) b)) (0 : Int) (3 : Int))) (0 : Int)))) : Nat) : Int))) ∧ (condP (eqb (bif true then (decide ((List.getD (Prod.fst (dvRead (Prod.snd (dvOn (Prod.snd (dvWrite (DV.mk dm dm' dm'' d d1 d2 d3) (0 : Int) b)) (0 : Int) (3 : Int))) (0 : Int))) (2 : Nat) (0 : UInt8)) = (1 : UInt8))) else false) true) ((((0 : Int) ≤ (3 : Int)) ∧ ((3 : Int) < (((List.length (Prod.fst (dvRead (Prod.snd (dvOn (Prod.snd (dvWrite (DV.mk dm dm' dm'' d d1 d2 d3) (0 : Int) b)) (0 : Int) (3 : Int))) (0 : Int)))) : Nat) : Int))) ∧ (Q (law21_works_enc (bif true then (decide ((List.getD (Prod.fst (dvRead (Prod.snd (dvOn (Prod.snd (dvWrite (DV.mk dm dm' dm'' d d1 d2 d3) (0 : Int) b)) (0 : Int) (3 : Int))) (0 : Int))) (3 : Nat) (0 : UInt8)) = (0 : UInt8))) else false)))) (Q (law21_works_enc false)))) (Q (law21_works_enc false))) (Q (law21_works_enc false))) (Q (law21_works_enc false))) (Q (law21_works_enc false))) (Q (law21_works_enc false))) (Q (law21_works_enc false))))))) := by kernel_rfl
theorem law21_works_k0 {r : Bool} {Q : CallOut → Prop} (hQ : Q (law21_works_enc r)) : ∀ k : Nat, (∀ (e : Int) (f : Int) (i : Int) (d : Int) (d1 : Bool) (d2 : Int) (d3 : Bool) (b : List UInt8) (dm : List PV) (dm' : List (PV × PV)) (dm'' : List PV), law21_works_h0 k e f i d d1 d2 d3 b dm dm' dm'' = some r → headP law21_works_C law21_works_lv [true, true, true, true, false, true, false] law21_works_b (law21_works_s0 e f i d d1 d2 d3 b dm dm' dm'') (fnK law21_works_C law21_works_r law21_works_hs Q))
  | 0 => fun _ _ _ _ _ _ _ _ _ _ _ h => no_ok h
  | k + 1 => fun e f i d d1 d2 d3 b dm dm' dm'' h => headP_step (Eq.mpr (law21_works_g0 e f i d d1 d2 d3 b dm dm' dm'' Q) (have h := (law21_works_h0_q k e f i d d1 d2 d3 b dm dm' dm'').symm.trans h; cond_ok h (fun h => ite_ok h fun hc0 h => (law21_works_k0 hQ k) _ _ _ _ _ _ _ _ _ _ _ h) (fun h => ite_ok h fun hc0 h => ite_ok h fun hc1 h => ite_ok h fun hc2 h => cond_ok h (fun h => cond_ok h (fun h => cond_ok h (fun h => cond_ok h (fun h => cond_ok h (fun h => cond_ok h (fun h => ite_ok h fun hc3 h => cond_ok h (fun h => ite_ok h fun hc4 h => ret_ok (Q := Q) (e := law21_works_enc) h hQ) (fun h => ret_ok (Q := Q) (e := law21_works_enc) h hQ)) (fun h => ret_ok (Q := Q) (e := law21_works_enc) h hQ)) (fun h => ret_ok (Q := Q) (e := law21_works_enc) h hQ)) (fun h => ret_ok (Q := Q) (e := law21_works_enc) h hQ)) (fun h => ret_ok (Q := Q) (e := law21_works_enc) h hQ)) (fun h => ret_ok (Q := Q) (e := law21_works_enc) h hQ)) (fun h => ret_ok (Q := Q) (e := law21_works_enc) h hQ))))
theorem law21_works_e  (Q : CallOut → Prop) : evalFnP law21_works_C law21_works_lv law21_works_r law21_works_hs law21_works_b [] [] Q =
    ((((0 : Int) ≤ (128 : Int)) ∧ (((128 : Int) ≤ (128 : Int)) ∧ ((((128 : Int) * (((1 : Nat) : Nat) : Int)) ≤ (((70368744177664 : Nat) : Nat) : Int)) ∧ ((128 : Int) ≤ ((2 : Int) ^ (62 : Nat)))))) ∧ (headP law21_works_C law21_works_lv [true, true, true, true, false, true, false] law21_works_b (law21_works_s0 (2 : Int) (0 : Int) (0 : Int) (DV.done (dvNew (8 : Int))) (DV.cut (dvNew (8 : Int))) (DV.left (dvNew (8 : Int))) (DV.dark (dvNew (8 : Int))) (List.replicate (128 : Nat) (0 : UInt8)) (DV.now (dvNew (8 : Int))) (DV.sure (dvNew (8 : Int))) (DV.writes (dvNew (8 : Int)))) (fnK law21_works_C law21_works_r law21_works_hs Q))) := by kernel_rfl
theorem law21_works_w {k : Nat}  {r} {Q : CallOut → Prop} (h : law21_works k  = some r) (hQ : Q (law21_works_enc r)) : evalFnP law21_works_C law21_works_lv law21_works_r law21_works_hs law21_works_b [] [] Q :=
  Eq.mpr (law21_works_e  Q) (have h := (law21_works_q k ).symm.trans h; ⟨by decide +kernel, (law21_works_k0 hQ _) _ _ _ _ _ _ _ _ _ _ _ h⟩)
def law21_works_c : Ans
  | [], [] => some (none, law21_works_enc (true))
  | _, _ => none
theorem law21_works_tok : TblOK Try.prog noG law21_works_T := .cons ⟨by kernel_rfl, dev_New_ok⟩ (.cons ⟨by kernel_rfl, dev_Write_ok⟩ (.cons ⟨by kernel_rfl, dev_On_ok⟩ (.cons ⟨by kernel_rfl, dev_Read_ok⟩ (.nil))))
theorem law21_works_ok : FnOK Try.prog noG 13 (unW law21_works_c) := by
  refine FnOK.ofC (T := law21_works_T) (nt := 74) (np := 0) (mv := []) (nf := false) (hs := law21_works_hs) (fn := Try.f13) (body := law21_works_b) law21_works_tok (by kernel_rfl) (by kernel_rfl) (by kernel_rfl) (by kernel_rfl) (c := law21_works_c) (lv := law21_works_lv) ?_
  intro xs mem p out h hp
  unfold law21_works_c at h
  split at h
  · cases h
    obtain ⟨k, hk⟩ := law21_works_spec
    exact law21_works_w  hk rfl
  · cases h
end
end Go.Proofs.Ytgecpcajmhgboaa.M
