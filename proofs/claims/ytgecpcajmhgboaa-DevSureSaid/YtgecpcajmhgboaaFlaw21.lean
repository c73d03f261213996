/- Part of the proofs: what functions of the program do: plain functions, and the walks that show it. No condition. -/
import Derived.KernelRfl
import Derived.Test.YtgecpcajmhgboaaProg
import Derived.Test.YtgecpcajmhgboaaLe
import Derived.Test.YtgecpcajmhgboaaSwords
import Derived.Test.YtgecpcajmhgboaaSdevS
import Derived.Test.YtgecpcajmhgboaaSdevT
import Derived.Test.YtgecpcajmhgboaaSdevA
import Derived.Test.YtgecpcajmhgboaaSdevR
import Derived.Test.YtgecpcajmhgboaaSdevD
import Derived.Test.YtgecpcajmhgboaaFdev
set_option linter.unusedVariables false
set_option linter.unusedSimpArgs false
set_option autoImplicit false
namespace Go.Proofs.Ytgecpcajmhgboaa.M
open Go
noncomputable section
/-- the loop 0 of (moneyer/moneyerlaw21.Act).bytes -/
def law21_bytes_h0 : Nat → Int → Int → Int → (List UInt8) → UInt8 → Int → Int → (List UInt8) → Option (List UInt8)
  | 0, _, _, _, _, _, _, _, _ => none
  | k + 1, i, a, a1, a2, a3, a4, a5, out => bif decide (i < (128 : Int)) then (if (((List.length a2) : Nat) : Int) ≠ (0 : Int) then
        if ((0 : Int) ≤ (Int.tmod i (((List.length a2) : Nat) : Int))) ∧ ((Int.tmod i (((List.length a2) : Nat) : Int)) < (((List.length a2) : Nat) : Int)) then
          if (((List.length (out ++ ([((List.getD a2 (Int.toNat (Int.tmod i (((List.length a2) : Nat) : Int))) (0 : UInt8)) ^^^ a3)] : List UInt8))) * (1 : Nat)) ≤ (70368744177664 : Nat)) ∧ ((List.length (out ++ ([((List.getD a2 (Int.toNat (Int.tmod i (((List.length a2) : Nat) : Int))) (0 : UInt8)) ^^^ a3)] : List UInt8))) ≤ (70368744177664 : Nat)) then
            law21_bytes_h0 k (w64 (i + (1 : Int))) a a1 a2 a3 a4 a5 (out ++ ([((List.getD a2 (Int.toNat (Int.tmod i (((List.length a2) : Nat) : Int))) (0 : UInt8)) ^^^ a3)] : List UInt8))
          else none
        else none
      else none)
      else (some out)
theorem law21_bytes_h0_q (k : Nat) (i : Int) (a : Int) (a1 : Int) (a2 : List UInt8) (a3 : UInt8) (a4 : Int) (a5 : Int) (out : List UInt8) : law21_bytes_h0 (k + 1) i a a1 a2 a3 a4 a5 out =
  (bif decide (i < (128 : Int)) then (if (((List.length a2) : Nat) : Int) ≠ (0 : Int) then
        if ((0 : Int) ≤ (Int.tmod i (((List.length a2) : Nat) : Int))) ∧ ((Int.tmod i (((List.length a2) : Nat) : Int)) < (((List.length a2) : Nat) : Int)) then
          if (((List.length (out ++ ([((List.getD a2 (Int.toNat (Int.tmod i (((List.length a2) : Nat) : Int))) (0 : UInt8)) ^^^ a3)] : List UInt8))) * (1 : Nat)) ≤ (70368744177664 : Nat)) ∧ ((List.length (out ++ ([((List.getD a2 (Int.toNat (Int.tmod i (((List.length a2) : Nat) : Int))) (0 : UInt8)) ^^^ a3)] : List UInt8))) ≤ (70368744177664 : Nat)) then
            law21_bytes_h0 k (w64 (i + (1 : Int))) a a1 a2 a3 a4 a5 (out ++ ([((List.getD a2 (Int.toNat (Int.tmod i (((List.length a2) : Nat) : Int))) (0 : UInt8)) ^^^ a3)] : List UInt8))
          else none
        else none
      else none)
      else (some out)) := by kernel_rfl
/-- (moneyer/moneyerlaw21.Act).bytes -/
def law21_bytes (k : Nat) (a_Do : Int) (a_N : Int) (a_B : List UInt8) (a_By : UInt8) (a_K : Int) (a_Torn : Int) : Option (List UInt8) :=
  bif eqb (decide (a_By = (255 : UInt8))) false then (bif bif false then true else (decide ((((List.length a_B) : Nat) : Int) = (0 : Int))) then (some a_B)
      else (law21_bytes_h0 k (0 : Int) a_Do a_N a_B a_By a_K a_Torn ([] : List UInt8)))
    else (some a_B)
theorem law21_bytes_q (k : Nat) (a_Do : Int) (a_N : Int) (a_B : List UInt8) (a_By : UInt8) (a_K : Int) (a_Torn : Int) : law21_bytes k a_Do a_N a_B a_By a_K a_Torn = (bif eqb (decide (a_By = (255 : UInt8))) false then (bif bif false then true else (decide ((((List.length a_B) : Nat) : Int) = (0 : Int))) then (some a_B)
      else (law21_bytes_h0 k (0 : Int) a_Do a_N a_B a_By a_K a_Torn ([] : List UInt8)))
    else (some a_B)) := by kernel_rfl
theorem law21_bytes_loop (b : List UInt8) (y : UInt8) (hb : 0 < b.length) (a a1 a4 a5 : Int) : ∀ (m i : Nat), i + m = 128 →
    law21_bytes_h0 (m + 1) (i : Int) a a1 b y a4 a5 ((List.range i).map fun i => b.getD (i % b.length) 0 ^^^ y) = some ((List.range 128).map fun i => b.getD (i % b.length) 0 ^^^ y)
  | 0, i, h => by
    obtain rfl : i = 128 := by omega
    rw [law21_bytes_h0_q, decide_eq_false (by omega)]
    rfl
  | m + 1, i, h => by
    have e0 : Int.tmod (i : Int) ((b.length : Nat) : Int) = ((i % b.length : Nat) : Int) := (Int.ofNat_tmod i b.length).symm
    have hlt := Nat.mod_lt i hb
    have e2 : ((List.range i).map fun i => b.getD (i % b.length) 0 ^^^ y) ++ [b.getD (i % b.length) 0 ^^^ y] = (List.range (i + 1)).map fun i => b.getD (i % b.length) 0 ^^^ y := by rw [List.range_succ, List.map_append]; rfl
    rw [law21_bytes_h0_q, decide_eq_true (by omega)]
    simp only [cond_true]
    rw [if_pos (show ((b.length : Nat) : Int) ≠ 0 by omega), e0, if_pos ⟨by omega, by omega⟩, Int.toNat_natCast, e2, if_pos (by simp; omega), w64_id (by omega) (by omega), show ((i : Nat) : Int) + 1 = ((i + 1 : Nat) : Int) by omega]
    exact law21_bytes_loop b y hb a a1 a4 a5 m (i + 1) (by omega)
theorem law21_bytes_spec (a a1 : Int) (b : List UInt8) (y : UInt8) (a4 a5 : Int) : ∃ k, law21_bytes k a a1 b y a4 a5 = some (actB b y) := by
  refine ⟨129, ?_⟩
  rw [law21_bytes_q, actB_eq]
  unfold actB0
  by_cases h1 : y = 255
  · rw [decide_eq_true h1, if_pos (.inl h1)]; rfl
  · rw [decide_eq_false h1]
    by_cases h2 : b.length = 0
    · rw [decide_eq_true (show ((b.length : Nat) : Int) = 0 by omega), if_pos (.inr h2)]; rfl
    · rw [decide_eq_false (show ¬ ((b.length : Nat) : Int) = 0 by omega), if_neg (fun h => h.elim h1 h2)]
      exact law21_bytes_loop b y (by omega) a a1 a4 a5 128 0 rfl

end
end Go.Proofs.Ytgecpcajmhgboaa.M

namespace Go.Proofs.Ytgecpcajmhgboaa.M
open Go
noncomputable section
/-- the loop 0 of moneyer/moneyerlaw21.works -/
def law21_works_h0 : Nat → Int → Int → Int → Int → Bool → Int → Bool → (List UInt8) → (List PV) → (List (PV × PV)) → (List PV) → Option (Bool)
  | 0, _, _, _, _, _, _, _, _, _, _, _ => none
  | k + 1, e, f, i, d, d1, d2, d3, b, dm, dm', dm'' => bif decide (i < (((List.length b) : Nat) : Int)) then (if ((0 : Int) ≤ i) ∧ (i < (((List.length b) : Nat) : Int)) then
        law21_works_h0 k e f (w64 (i + (1 : Int))) d d1 d2 d3 (List.set b (Int.toNat i) (1 : UInt8)) dm dm' dm''
      else none)
      else (if dvW (DV.mk dm dm' dm'' d d1 d2 d3) then
        if dvW (Prod.snd (dvWrite (DV.mk dm dm' dm'' d d1 d2 d3) (0 : Int) b)) then
          if dvC (Prod.snd (dvOn (Prod.snd (dvWrite (DV.mk dm dm' dm'' d d1 d2 d3) (0 : Int) b)) (0 : Int) (3 : Int))) then
            bif eqb (decide (e = (2 : Int))) true then (bif eqb (bif true then (decide (f = (0 : Int))) else false) true then (bif eqb (bif true then (decide ((Prod.fst (dvWrite (DV.mk dm dm' dm'' d d1 d2 d3) (0 : Int) b)) = (0 : Int))) else false) true then (bif eqb (bif true then (decide ((Prod.fst (dvOn (Prod.snd (dvWrite (DV.mk dm dm' dm'' d d1 d2 d3) (0 : Int) b)) (0 : Int) (3 : Int))) = (0 : Int))) else false) true then (bif eqb (bif true then (decide ((Prod.snd (dvRead (Prod.snd (dvOn (Prod.snd (dvWrite (DV.mk dm dm' dm'' d d1 d2 d3) (0 : Int) b)) (0 : Int) (3 : Int))) (0 : Int))) = (0 : Int))) else false) true then (bif eqb (bif true then (decide ((((List.length (Prod.fst (dvRead (Prod.snd (dvOn (Prod.snd (dvWrite (DV.mk dm dm' dm'' d d1 d2 d3) (0 : Int) b)) (0 : Int) (3 : Int))) (0 : Int)))) : Nat) : Int) = (128 : Int))) else false) true then (if ((0 : Int) ≤ (2 : Int)) ∧ ((2 : Int) < (((List.length (Prod.fst (dvRead (Prod.snd (dvOn (Prod.snd (dvWrite (DV.mk dm dm' dm'' d d1 d2 d3) (0 : Int) b)) (0 : Int) (3 : Int))) (0 : Int)))) : Nat) : Int)) then
                          bif eqb (bif true then (decide ((List.getD (Prod.fst (dvRead (Prod.snd (dvOn (Prod.snd (dvWrite (DV.mk dm dm' dm'' d d1 d2 d3) (0 : Int) b)) (0 : Int) (3 : Int))) (0 : Int))) (2 : Nat) (0 : UInt8)) = (1 : UInt8))) else false) true then (if ((0 : Int) ≤ (3 : Int)) ∧ ((3 : Int) < (((List.length (Prod.fst (dvRead (Prod.snd (dvOn (Prod.snd (dvWrite (DV.mk dm dm' dm'' d d1 d2 d3) (0 : Int) b)) (0 : Int) (3 : Int))) (0 : Int)))) : Nat) : Int)) then
                              some (bif true then (decide ((List.getD (Prod.fst (dvRead (Prod.snd (dvOn (Prod.snd (dvWrite (DV.mk dm dm' dm'' d d1 d2 d3) (0 : Int) b)) (0 : Int) (3 : Int))) (0 : Int))) (3 : Nat) (0 : UInt8)) = (0 : UInt8))) else false)
                            else none)
                            else (some false)
                        else none)
                        else (some false))
                      else (some false))
                    else (some false))
                  else (some false))
                else (some false))
              else (some false)
          else none
        else none
      else none)
theorem law21_works_h0_q (k : Nat) (e : Int) (f : Int) (i : Int) (d : Int) (d1 : Bool) (d2 : Int) (d3 : Bool) (b : List UInt8) (dm : List PV) (dm' : List (PV × PV)) (dm'' : List PV) : law21_works_h0 (k + 1) e f i d d1 d2 d3 b dm dm' dm'' =
  (bif decide (i < (((List.length b) : Nat) : Int)) then (if ((0 : Int) ≤ i) ∧ (i < (((List.length b) : Nat) : Int)) then
        law21_works_h0 k e f (w64 (i + (1 : Int))) d d1 d2 d3 (List.set b (Int.toNat i) (1 : UInt8)) dm dm' dm''
      else none)
      else (if dvW (DV.mk dm dm' dm'' d d1 d2 d3) then
        if dvW (Prod.snd (dvWrite (DV.mk dm dm' dm'' d d1 d2 d3) (0 : Int) b)) then
          if dvC (Prod.snd (dvOn (Prod.snd (dvWrite (DV.mk dm dm' dm'' d d1 d2 d3) (0 : Int) b)) (0 : Int) (3 : Int))) then
            bif eqb (decide (e = (2 : Int))) true then (bif eqb (bif true then (decide (f = (0 : Int))) else false) true then (bif eqb (bif true then (decide ((Prod.fst (dvWrite (DV.mk dm dm' dm'' d d1 d2 d3) (0 : Int) b)) = (0 : Int))) else false) true then (bif eqb (bif true then (decide ((Prod.fst (dvOn (Prod.snd (dvWrite (DV.mk dm dm' dm'' d d1 d2 d3) (0 : Int) b)) (0 : Int) (3 : Int))) = (0 : Int))) else false) true then (bif eqb (bif true then (decide ((Prod.snd (dvRead (Prod.snd (dvOn (Prod.snd (dvWrite (DV.mk dm dm' dm'' d d1 d2 d3) (0 : Int) b)) (0 : Int) (3 : Int))) (0 : Int))) = (0 : Int))) else false) true then (bif eqb (bif true then (decide ((((List.length (Prod.fst (dvRead (Prod.snd (dvOn (Prod.snd (dvWrite (DV.mk dm dm' dm'' d d1 d2 d3) (0 : Int) b)) (0 : Int) (3 : Int))) (0 : Int)))) : Nat) : Int) = (128 : Int))) else false) true then (if ((0 : Int) ≤ (2 : Int)) ∧ ((2 : Int) < (((List.length (Prod.fst (dvRead (Prod.snd (dvOn (Prod.snd (dvWrite (DV.mk dm dm' dm'' d d1 d2 d3) (0 : Int) b)) (0 : Int) (3 : Int))) (0 : Int)))) : Nat) : Int)) then
                          bif eqb (bif true then (decide ((List.getD (Prod.fst (dvRead (Prod.snd (dvOn (Prod.snd (dvWrite (DV.mk dm dm' dm'' d d1 d2 d3) (0 : Int) b)) (0 : Int) (3 : Int))) (0 : Int))) (2 : Nat) (0 : UInt8)) = (1 : UInt8))) else false) true then (if ((0 : Int) ≤ (3 : Int)) ∧ ((3 : Int) < (((List.length (Prod.fst (dvRead (Prod.snd (dvOn (Prod.snd (dvWrite (DV.mk dm dm' dm'' d d1 d2 d3) (0 : Int) b)) (0 : Int) (3 : Int))) (0 : Int)))) : Nat) : Int)) then
                              some (bif true then (decide ((List.getD (Prod.fst (dvRead (Prod.snd (dvOn (Prod.snd (dvWrite (DV.mk dm dm' dm'' d d1 d2 d3) (0 : Int) b)) (0 : Int) (3 : Int))) (0 : Int))) (3 : Nat) (0 : UInt8)) = (0 : UInt8))) else false)
                            else none)
                            else (some false)
                        else none)
                        else (some false))
                      else (some false))
                    else (some false))
                  else (some false))
                else (some false))
              else (some false)
          else none
        else none
      else none)) := by kernel_rfl
/-- moneyer/moneyerlaw21.works -/
def law21_works (k : Nat)  : Option (Bool) :=
  law21_works_h0 k (2 : Int) (0 : Int) (0 : Int) (DV.done (dvNew (8 : Int))) (DV.cut (dvNew (8 : Int))) (DV.left (dvNew (8 : Int))) (DV.dark (dvNew (8 : Int))) (List.replicate (128 : Nat) (0 : UInt8)) (DV.now (dvNew (8 : Int))) (DV.sure (dvNew (8 : Int))) (DV.writes (dvNew (8 : Int)))
theorem law21_works_q (k : Nat)  : law21_works k  = (law21_works_h0 k (2 : Int) (0 : Int) (0 : Int) (DV.done (dvNew (8 : Int))) (DV.cut (dvNew (8 : Int))) (DV.left (dvNew (8 : Int))) (DV.dark (dvNew (8 : Int))) (List.replicate (128 : Nat) (0 : UInt8)) (DV.now (dvNew (8 : Int))) (DV.sure (dvNew (8 : Int))) (DV.writes (dvNew (8 : Int)))) := by kernel_rfl
def wD0 : AD := ⟨List.replicate 8 zsec, [], 0, false, 0, false⟩
def wb1 : List UInt8 := List.replicate 128 1
def wD1 : AD := ⟨List.replicate 8 zsec, [(0, secL wb1)], 1, false, -1, false⟩
def wD2 : AD := ⟨(List.replicate 8 zsec).set 0 (tornV zsec (secL wb1) 3), [], 1, false, 0, false⟩
theorem wD0_eq : dvNew 8 = wD0.conc := by rw [dvNew_eq, adNew_eq]; rfl
theorem wD0_ok : wD0.ok := ⟨fun p hp => (by cases hp), by decide⟩
theorem w_write : adWrite wD0 0 wb1 = (0, wD1) := by
  have hs : wD0.stateE 0 = 0 := rfl
  rw [adWrite_eq, if_neg (show ¬ (wb1.length ≠ 128) from fun h => h (by simp [wb1])), hs, if_neg (show ¬ ((0 : Int) ≠ 0) from fun h => h rfl), if_neg (show ¬ (wD0.cut = true ∧ wD0.left = 0) from fun h => by cases h.1)]
  rfl
theorem w_on : adOn wD1 0 3 = (0, wD2) := by
  rw [adOn_eq, if_neg (show ¬ ((0 : Int) < 0 ∨ (3 : Int) < 0) by omega)]
  rfl
theorem w_read : adRead wD2 0 = ((tornV zsec (secL wb1) 3).toList, 0) := by
  rw [adRead_eq, if_pos (show wD2.stateE 0 = 0 from rfl)]
  rfl
theorem wD1_ok : wD1.ok := by have := adWrite_ok wD0_ok 0 wb1; rw [w_write] at this; exact this
theorem wD2_ok : wD2.ok := by have := adOn_ok wD1_ok 0 3; rw [w_on] at this; exact this
theorem w_end (k : Nat) : law21_works_h0 (k + 1) 2 0 ((128 : Nat) : Int) wD0.conc.done wD0.conc.cut wD0.conc.left wD0.conc.dark wb1 wD0.conc.now wD0.conc.sure wD0.conc.writes = some true := by
  have e1 : dvWrite wD0.conc 0 wb1 = (0, wD1.conc) := by rw [dvWrite_conc wD0_ok, w_write]
  have e2 : dvOn wD1.conc 0 3 = (0, wD2.conc) := by rw [dvOn_conc wD1_ok, w_on]
  have e3 : dvRead wD2.conc 0 = ((tornV zsec (secL wb1) 3).toList, 0) := by rw [dvRead_conc wD2_ok, w_read]
  have e0 : DV.mk wD0.conc.now wD0.conc.sure wD0.conc.writes wD0.conc.done wD0.conc.cut wD0.conc.left wD0.conc.dark = wD0.conc := rfl
  have hl : (tornV zsec (secL wb1) 3).toList.length = 128 := by simp
  have h2 : List.getD (tornV zsec (secL wb1) 3).toList 2 0 = 1 := by
    rw [vget_get _ _ _ (by decide)]
    simp [tornV, secL, wb1]
  have h3 : List.getD (tornV zsec (secL wb1) 3).toList 3 0 = 0 := by
    rw [vget_get _ _ _ (by decide)]
    simp [tornV, zsec]
  rw [law21_works_h0_q, decide_eq_false (show ¬ ((128 : Nat) : Int) < ((wb1.length : Nat) : Int) by simp [wb1]), e0, e1, e2, e3, hl, h2, h3]
  simp only [cond_false]
  rw [if_pos (AD.dvW wD0_ok (by decide)), if_pos (AD.dvW wD1_ok (by decide)), if_pos (AD.dvC wD2_ok)]
  rfl
theorem w_loop (k : Nat) : ∀ (m i : Nat), i + m = 128 → law21_works_h0 (m + (k + 1)) 2 0 (i : Int) wD0.conc.done wD0.conc.cut wD0.conc.left wD0.conc.dark (List.replicate i 1 ++ List.replicate m 0) wD0.conc.now wD0.conc.sure wD0.conc.writes = some true
  | 0, i, h => by
    obtain rfl : i = 128 := by omega
    rw [List.replicate_zero, List.append_nil, Nat.zero_add]
    exact w_end k
  | m + 1, i, h => by
    have hs : List.set (List.replicate i (1 : UInt8) ++ List.replicate (m + 1) 0) i 1 = List.replicate (i + 1) 1 ++ List.replicate m 0 := by
      rw [List.set_append_right _ _ (by simp)]
      simp only [List.length_replicate, Nat.sub_self]
      rw [List.replicate_succ (n := m), List.set_cons_zero, List.replicate_succ', List.append_assoc]
      rfl
    rw [show m + 1 + (k + 1) = (m + (k + 1)) + 1 by omega, law21_works_h0_q, decide_eq_true (by simp; omega)]
    simp only [cond_true]
    rw [if_pos ⟨by omega, by simp; omega⟩, w64_id (by omega) (by omega), Int.toNat_natCast, hs, show ((i : Nat) : Int) + 1 = ((i + 1 : Nat) : Int) by omega]
    exact w_loop k m (i + 1) (by omega)
theorem law21_works_spec : ∃ k, law21_works k = some true := by
  refine ⟨128 + 1, ?_⟩
  rw [law21_works_q, wD0_eq]
  have := w_loop 0 128 0 rfl
  exact this

end
end Go.Proofs.Ytgecpcajmhgboaa.M

namespace Go.Proofs.Ytgecpcajmhgboaa.M
open Go
noncomputable section
set_option maxRecDepth 100000
set_option maxHeartbeats 0
noncomputable def law21_bytes_T : Tbl := []
noncomputable def law21_bytes_C : CfgW := mkC Try.prog noG law21_bytes_T 36 0 true
def law21_bytes_lv : Nat → List Nat := fun i => bif Nat.beq i 0 then [1, 3, 4] else bif Nat.beq i 6000000 then [2] else []
noncomputable abbrev law21_bytes_b : Code := Try.f9.body.getD .skip
noncomputable abbrev law21_bytes_r : List ResultVar := Try.f9.results.toList
def law21_bytes_hs : List Nat := []

def law21_bytes_enc (r : List UInt8) : CallOut := ⟨.pv (.sl .u8 r), [], false, []⟩
def law21_bytes_s0 (i : Int) (a : Int) (a1 : Int) (a2 : List UInt8) (a3 : UInt8) (a4 : Int) (a5 : Int) (out : List UInt8) : St := ⟨[(1, .p 60000 []), (3, .o 60001), (4, .pv (.sc .i i))], [(60000, .box (.pv (.st [.sc .i a, .sc .i a1, .sl .u8 a2, .sc .u8 a3, .sc .i a4, .sc .i a5]))), (60001, .row (.s .u8 out) false)]⟩
theorem law21_bytes_g0 (i : Int) (a : Int) (a1 : Int) (a2 : List UInt8) (a3 : UInt8) (a4 : Int) (a5 : Int) (out : List UInt8) (Q : CallOut → Prop) : headRound law21_bytes_C law21_bytes_lv [true, true, true, false, true, false] law21_bytes_b (law21_bytes_s0 i a a1 a2 a3 a4 a5 out) (fnK law21_bytes_C law21_bytes_r law21_bytes_hs Q) =
    (condP (decide (i < (128 : Int))) (((((List.length a2) : Nat) : Int) ≠ (0 : Int)) ∧ ((((0 : Int) ≤ (Int.tmod i (((List.length a2) : Nat) : Int))) ∧ ((Int.tmod i (((List.length a2) : Nat) : Int)) < (((List.length a2) : Nat) : Int))) ∧ (((((List.length (out ++ ([((List.getD a2 (Int.toNat (Int.tmod i (((List.length a2) : Nat) : Int))) (0 : UInt8)) ^^^ a3)] : List UInt8))) * (1 : Nat)) ≤ (70368744177664 : Nat)) ∧ ((List.length (out ++ ([((List.getD a2 (Int.toNat (Int.tmod i (((List.length a2) : Nat) : Int))) (0 : UInt8)) ^^^ a3)] : List UInt8))) ≤ (70368744177664 : Nat))) ∧ (headP law21_bytes_C law21_bytes_lv [true, true, true, false, true, false] law21_bytes_b (law21_bytes_s0 (w64 (i + (1 : Int))) a a1 a2 a3 a4 a5 (out ++ ([((List.getD a2 (Int.toNat (Int.tmod i (((List.length a2) : Nat) : Int))) (0 : UInt8)) ^^^ a3)] : List UInt8))) (fnK law21_bytes_C law21_bytes_r law21_bytes_hs Q))))) (Q (law21_bytes_enc out))) := by kernel_rfl
theorem law21_bytes_k0 {r : List UInt8} {Q : CallOut → Prop} (hQ : Q (law21_bytes_enc r)) : ∀ k : Nat, (∀ (i : Int) (a : Int) (a1 : Int) (a2 : List UInt8) (a3 : UInt8) (a4 : Int) (a5 : Int) (out : List UInt8), law21_bytes_h0 k i a a1 a2 a3 a4 a5 out = some r → headP law21_bytes_C law21_bytes_lv [true, true, true, false, true, false] law21_bytes_b (law21_bytes_s0 i a a1 a2 a3 a4 a5 out) (fnK law21_bytes_C law21_bytes_r law21_bytes_hs Q))
  | 0 => fun _ _ _ _ _ _ _ _ h => no_ok h
  | k + 1 => fun i a a1 a2 a3 a4 a5 out h => headP_step (Eq.mpr (law21_bytes_g0 i a a1 a2 a3 a4 a5 out Q) (have h := (law21_bytes_h0_q k i a a1 a2 a3 a4 a5 out).symm.trans h; cond_ok h (fun h => ite_ok h fun hc0 h => ite_ok h fun hc1 h => ite_ok h fun hc2 h => (law21_bytes_k0 hQ k) _ _ _ _ _ _ _ _ h) (fun h => ret_ok (Q := Q) (e := law21_bytes_enc) h hQ)))
theorem law21_bytes_e (a_Do : Int) (a_N : Int) (a_B : List UInt8) (a_By : UInt8) (a_K : Int) (a_Torn : Int) (Q : CallOut → Prop) : evalFnP law21_bytes_C law21_bytes_lv law21_bytes_r law21_bytes_hs law21_bytes_b [.pv (.st [.sc .i a_Do, .sc .i a_N, .sl .u8 a_B, .sc .u8 a_By, .sc .i a_K, .sc .i a_Torn])] [] Q =
    (condP (eqb (decide (a_By = (255 : UInt8))) false) (condP (bif false then true else (decide ((((List.length a_B) : Nat) : Int) = (0 : Int)))) (Q (law21_bytes_enc a_B)) (headP law21_bytes_C law21_bytes_lv [true, true, true, false, true, false] law21_bytes_b (law21_bytes_s0 (0 : Int) a_Do a_N a_B a_By a_K a_Torn ([] : List UInt8)) (fnK law21_bytes_C law21_bytes_r law21_bytes_hs Q))) (Q (law21_bytes_enc a_B))) := by kernel_rfl
theorem law21_bytes_w {k : Nat} (a_Do : Int) (a_N : Int) (a_B : List UInt8) (a_By : UInt8) (a_K : Int) (a_Torn : Int) {r} {Q : CallOut → Prop} (h : law21_bytes k a_Do a_N a_B a_By a_K a_Torn = some r) (hQ : Q (law21_bytes_enc r)) : evalFnP law21_bytes_C law21_bytes_lv law21_bytes_r law21_bytes_hs law21_bytes_b [.pv (.st [.sc .i a_Do, .sc .i a_N, .sl .u8 a_B, .sc .u8 a_By, .sc .i a_K, .sc .i a_Torn])] [] Q :=
  Eq.mpr (law21_bytes_e a_Do a_N a_B a_By a_K a_Torn Q) (have h := (law21_bytes_q k a_Do a_N a_B a_By a_K a_Torn).symm.trans h; cond_ok h (fun h => cond_ok h (fun h => ret_ok (Q := Q) (e := law21_bytes_enc) h hQ) (fun h => (law21_bytes_k0 hQ _) _ _ _ _ _ _ _ _ h)) (fun h => ret_ok (Q := Q) (e := law21_bytes_enc) h hQ))
def law21_bytes_c : Ans
  | [.pv (.st [.sc .i a_Do, .sc .i a_N, .sl .u8 a_B, .sc .u8 a_By, .sc .i a_K, .sc .i a_Torn])], [] => some (none, law21_bytes_enc (actB a_B a_By))
  | _, _ => none
theorem law21_bytes_tok : TblOK Try.prog noG law21_bytes_T := .nil
theorem law21_bytes_ok : FnOK Try.prog noG 9 (unW law21_bytes_c) := by
  refine FnOK.ofC (T := law21_bytes_T) (nt := 36) (np := 0) (mv := []) (nf := true) (hs := law21_bytes_hs) (fn := Try.f9) (body := law21_bytes_b) law21_bytes_tok (by kernel_rfl) (by kernel_rfl) (by kernel_rfl) (by kernel_rfl) (c := law21_bytes_c) (lv := law21_bytes_lv) ?_
  intro xs mem p out h hp
  unfold law21_bytes_c at h
  split at h
  · cases h
    obtain ⟨k, hk⟩ := law21_bytes_spec _ _ _ _ _ _
    exact law21_bytes_w _ _ _ _ _ _ hk rfl
  · cases h
end
end Go.Proofs.Ytgecpcajmhgboaa.M

namespace Go.Proofs.Ytgecpcajmhgboaa.M
open Go
noncomputable section
set_option maxRecDepth 100000
set_option maxHeartbeats 0
noncomputable def law21_works_T : Tbl := [(8, [], dev_New_c), (11, [true, false, false], dev_Write_c), (18, [true, false, false], dev_On_c), (15, [true, false], dev_Read_c)]
noncomputable def law21_works_C : CfgW := mkC Try.prog noG law21_works_T 74 0 false
def law21_works_lv : Nat → List Nat := fun i => bif Nat.beq i 0 then [2, 3, 4, 5, 6] else []
noncomputable abbrev law21_works_b : Code := Try.f13.body.getD .skip
noncomputable abbrev law21_works_r : List ResultVar := Try.f13.results.toList
def law21_works_hs : List Nat := []

def law21_works_enc (r : Bool) : CallOut := ⟨.pv (.sc .b r), [], true, []⟩
def law21_works_s0 (e : Int) (f : Int) (i : Int) (d : Int) (d1 : Bool) (d2 : Int) (d3 : Bool) (b : List UInt8) (dm : List PV) (dm' : List (PV × PV)) (dm'' : List PV) : St := ⟨[(2, .pv (.sc .i e)), (3, .p 60000 []), (4, .pv (.sc .i f)), (5, .o 60001), (6, .pv (.sc .i i))], [(60000, .box (.st [.o 60002, .o 60003, .o 60004, .pv (.sc .i d), .pv (.sc .b d1), .pv (.sc .i d2), .pv (.sc .b d3)])), (60001, .row (.s .u8 b) true), (60002, .row (.p 128 dm) false), (60003, .map dm'), (60004, .row (.p 129 dm'') false)]⟩
theorem law21_works_g0 (e : Int) (f : Int) (i : Int) (d : Int) (d1 : Bool) (d2 : Int) (d3 : Bool) (b : List UInt8) (dm : List PV) (dm' : List (PV × PV)) (dm'' : List PV) (Q : CallOut → Prop) : headRound law21_works_C law21_works_lv [true, true, true, true, false, true, false] law21_works_b (law21_works_s0 e f i d d1 d2 d3 b dm dm' dm'') (fnK law21_works_C law21_works_r law21_works_hs Q) =
    (condP (decide (i < (((List.length b) : Nat) : Int))) ((((0 : Int) ≤ i) ∧ (i < (((List.length b) : Nat) : Int))) ∧ (headP law21_works_C law21_works_lv [true, true, true, true, false, true, false] law21_works_b (law21_works_s0 e f (w64 (i + (1 : Int))) d d1 d2 d3 (List.set b (Int.toNat i) (1 : UInt8)) dm dm' dm'') (fnK law21_works_C law21_works_r law21_works_hs Q))) ((dvW (DV.mk dm dm' dm'' d d1 d2 d3)) ∧ ((dvW (Prod.snd (dvWrite (DV.mk dm dm' dm'' d d1 d2 d3) (0 : Int) b))) ∧ ((dvC (Prod.snd (dvOn (Prod.snd (dvWrite (DV.mk dm dm' dm'' d d1 d2 d3) (0 : Int) b)) (0 : Int) (3 : Int)))) ∧ (condP (eqb (decide (e = (2 : Int))) true) (condP (eqb (bif true then (decide (f = (0 : Int))) else false) true) (condP (eqb (bif true then (decide ((Prod.fst (dvWrite (DV.mk dm dm' dm'' d d1 d2 d3) (0 : Int) b)) = (0 : Int))) else false) true) (condP (eqb (bif true then (decide ((Prod.fst (dvOn (Prod.snd (dvWrite (DV.mk dm dm' dm'' d d1 d2 d3) (0 : Int) b)) (0 : Int) (3 : Int))) = (0 : Int))) else false) true) (condP (eqb (bif true then (decide ((Prod.snd (dvRead (Prod.snd (dvOn (Prod.snd (dvWrite (DV.mk dm dm' dm'' d d1 d2 d3) (0 : Int) b)) (0 : Int) (3 : Int))) (0 : Int))) = (0 : Int))) else false) true) (condP (eqb (bif true then (decide ((((List.length (Prod.fst (dvRead (Prod.snd (dvOn (Prod.snd (dvWrite (DV.mk dm dm' dm'' d d1 d2 d3) (0 : Int) b)) (0 : Int) (3 : Int))) (0 : Int)))) : Nat) : Int) = (128 : Int))) else false) true) ((((0 : Int) ≤ (2 : Int)) ∧ ((2 : Int) < (((List.length (Prod.fst (dvRead (Prod.snd (dvOn (Prod.snd (dvWrite (DV.mk dm dm' dm'' d d1 d2 d3) (0 : Int) b)) (0 : Int) (3 : Int))) (0 : Int)))) : Nat) : Int))) ∧ (condP (eqb (bif true then (decide ((List.getD (Prod.fst (dvRead (Prod.snd (dvOn (Prod.snd (dvWrite (DV.mk dm dm' dm'' d d1 d2 d3) (0 : Int) b)) (0 : Int) (3 : Int))) (0 : Int))) (2 : Nat) (0 : UInt8)) = (1 : UInt8))) else false) true) ((((0 : Int) ≤ (3 : Int)) ∧ ((3 : Int) < (((List.length (Prod.fst (dvRead (Prod.snd (dvOn (Prod.snd (dvWrite (DV.mk dm dm' dm'' d d1 d2 d3) (0 : Int) b)) (0 : Int) (3 : Int))) (0 : Int)))) : Nat) : Int))) ∧ (Q (law21_works_enc (bif true then (decide ((List.getD (Prod.fst (dvRead (Prod.snd (dvOn (Prod.snd (dvWrite (DV.mk dm dm' dm'' d d1 d2 d3) (0 : Int) b)) (0 : Int) (3 : Int))) (0 : Int))) (3 : Nat) (0 : UInt8)) = (0 : UInt8))) else false)))) (Q (law21_works_enc false)))) (Q (law21_works_enc false))) (Q (law21_works_enc false))) (Q (law21_works_enc false))) (Q (law21_works_enc false))) (Q (law21_works_enc false))) (Q (law21_works_enc false))))))) := by kernel_rfl
theorem law21_works_k0 {r : Bool} {Q : CallOut → Prop} (hQ : Q (law21_works_enc r)) : ∀ k : Nat, (∀ (e : Int) (f : Int) (i : Int) (d : Int) (d1 : Bool) (d2 : Int) (d3 : Bool) (b : List UInt8) (dm : List PV) (dm' : List (PV × PV)) (dm'' : List PV), law21_works_h0 k e f i d d1 d2 d3 b dm dm' dm'' = some r → headP law21_works_C law21_works_lv [true, true, true, true, false, true, false] law21_works_b (law21_works_s0 e f i d d1 d2 d3 b dm dm' dm'') (fnK law21_works_C law21_works_r law21_works_hs Q))
  | 0 => fun _ _ _ _ _ _ _ _ _ _ _ h => no_ok h
  | k + 1 => fun e f i d d1 d2 d3 b dm dm' dm'' h => headP_step (Eq.mpr (law21_works_g0 e f i d d1 d2 d3 b dm dm' dm'' Q) (have h := (law21_works_h0_q k e f i d d1 d2 d3 b dm dm' dm'').symm.trans h; cond_ok h (fun h => ite_ok h fun hc0 h => (law21_works_k0 hQ k) _ _ _ _ _ _ _ _ _ _ _ h) (fun h => ite_ok h fun hc0 h => ite_ok h fun hc1 h => ite_ok h fun hc2 h => cond_ok h (fun h => cond_ok h (fun h => cond_ok h (fun h => cond_ok h (fun h => cond_ok h (fun h => cond_ok h (fun h => ite_ok h fun hc3 h => cond_ok h (fun h => ite_ok h fun hc4 h => ret_ok (Q := Q) (e := law21_works_enc) h hQ) (fun h => ret_ok (Q := Q) (e := law21_works_enc) h hQ)) (fun h => ret_ok (Q := Q) (e := law21_works_enc) h hQ)) (fun h => ret_ok (Q := Q) (e := law21_works_enc) h hQ)) (fun h => ret_ok (Q := Q) (e := law21_works_enc) h hQ)) (fun h => ret_ok (Q := Q) (e := law21_works_enc) h hQ)) (fun h => ret_ok (Q := Q) (e := law21_works_enc) h hQ)) (fun h => ret_ok (Q := Q) (e := law21_works_enc) h hQ))))
theorem law21_works_e  (Q : CallOut → Prop) : evalFnP law21_works_C law21_works_lv law21_works_r law21_works_hs law21_works_b [] [] Q =
    ((((0 : Int) ≤ (128 : Int)) ∧ (((128 : Int) ≤ (128 : Int)) ∧ ((((128 : Int) * (((1 : Nat) : Nat) : Int)) ≤ (((70368744177664 : Nat) : Nat) : Int)) ∧ ((128 : Int) ≤ ((2 : Int) ^ (62 : Nat)))))) ∧ (headP law21_works_C law21_works_lv [true, true, true, true, false, true, false] law21_works_b (law21_works_s0 (2 : Int) (0 : Int) (0 : Int) (DV.done (dvNew (8 : Int))) (DV.cut (dvNew (8 : Int))) (DV.left (dvNew (8 : Int))) (DV.dark (dvNew (8 : Int))) (List.replicate (128 : Nat) (0 : UInt8)) (DV.now (dvNew (8 : Int))) (DV.sure (dvNew (8 : Int))) (DV.writes (dvNew (8 : Int)))) (fnK law21_works_C law21_works_r law21_works_hs Q))) := by kernel_rfl
theorem law21_works_w {k : Nat}  {r} {Q : CallOut → Prop} (h : law21_works k  = some r) (hQ : Q (law21_works_enc r)) : evalFnP law21_works_C law21_works_lv law21_works_r law21_works_hs law21_works_b [] [] Q :=
  Eq.mpr (law21_works_e  Q) (have h := (law21_works_q k ).symm.trans h; ⟨by decide +kernel, (law21_works_k0 hQ _) _ _ _ _ _ _ _ _ _ _ _ h⟩)
def law21_works_c : Ans
  | [], [] => some (none, law21_works_enc (true))
  | _, _ => none
theorem law21_works_tok : TblOK Try.prog noG law21_works_T := .cons ⟨by kernel_rfl, dev_New_ok⟩ (.cons ⟨by kernel_rfl, dev_Write_ok⟩ (.cons ⟨by kernel_rfl, dev_On_ok⟩ (.cons ⟨by kernel_rfl, dev_Read_ok⟩ (.nil))))
theorem law21_works_ok : FnOK Try.prog noG 13 (unW law21_works_c) := by
  refine FnOK.ofC (T := law21_works_T) (nt := 74) (np := 0) (mv := []) (nf := false) (hs := law21_works_hs) (fn := Try.f13) (body := law21_works_b) law21_works_tok (by kernel_rfl) (by kernel_rfl) (by kernel_rfl) (by kernel_rfl) (c := law21_works_c) (lv := law21_works_lv) ?_
  intro xs mem p out h hp
  unfold law21_works_c at h
  split at h
  · cases h
    obtain ⟨k, hk⟩ := law21_works_spec
    exact law21_works_w  hk rfl
  · cases h
end
end Go.Proofs.Ytgecpcajmhgboaa.M
