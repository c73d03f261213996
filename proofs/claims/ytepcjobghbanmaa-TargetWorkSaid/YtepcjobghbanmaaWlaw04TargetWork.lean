/- The statement of TargetWork: for every input the law returns true, and each argument reads behind the call as it read before. No condition. -/
import Derived.KernelRfl
import Derived.Test.YtepcjobghbanmaaProg
import Derived.Test.YtepcjobghbanmaaRows
import Derived.WalkKit
import Derived.ProofKit
import Derived.Handy
import Derived.Lay
import Derived.SizedLaws
import Derived.SevenTiedAt
import Derived.Test.YtepcjobghbanmaaLd
import Derived.Test.YtepcjobghbanmaaFtarget
import Derived.Test.YtepcjobghbanmaaFlaw04
import Derived.Test.YtepcjobghbanmaaFref03
import Derived.Test.YtepcjobghbanmaaSwords
import Derived.Test.YtepcjobghbanmaaSbigS
import Derived.Test.YtepcjobghbanmaaSbigB
import Derived.Test.YtepcjobghbanmaaStarS
import Derived.Test.YtepcjobghbanmaaLe
set_option linter.unusedVariables false
set_option linter.unusedSimpArgs false
set_option autoImplicit false
namespace Go.Proofs.Ytepcjobghbanmaa.M
open Go
noncomputable section
/-- moneyer/moneyerlaw04.TargetWork -/
def law04_TargetWork (a : UInt32) (b : UInt32) : Bool :=
  bif eqb (!(decide ((ofE a) = (0 : Int)))) false then (bif bif false then true else (!(decide ((ofE b) = (0 : Int)))) then (true)
      else (bif eqb (decide ((ofE a) = (0 : Int))) true then (bif eqb (bif true then (decide ((ofE b) = (0 : Int))) else false) true then (bif eqb (subB (ofV a) (ofV b)) true then (bif eqb (bif true then (!(subB (workV a) (workV b))) else false) false then (bif eqb (subB (ofV b) (ofV a)) true then (bif eqb (bif false then true else (bif true then (!(subB (workV b) (workV a))) else false)) false then (bif eqb (decide ((Vector.toList (ofV a)) = (Vector.toList (ofV b)))) true then (bif eqb (bif true then (bif false then true else (bif true then (decide ((Vector.toList (workV a)) = (Vector.toList (workV b)))) else false)) else false) true then (true)
                      else (false))
                    else (false))
                  else (true))
                else (bif eqb (decide ((Vector.toList (ofV a)) = (Vector.toList (ofV b)))) true then (bif eqb (bif true then (bif false then true else (bif true then (decide ((Vector.toList (workV a)) = (Vector.toList (workV b)))) else false)) else false) true then (true)
                    else (false))
                  else (false)))
              else (true))
            else (bif eqb (subB (ofV b) (ofV a)) true then (bif eqb (bif false then true else (bif true then (!(subB (workV b) (workV a))) else false)) false then (bif eqb (decide ((Vector.toList (ofV a)) = (Vector.toList (ofV b)))) true then (bif eqb (bif true then (bif false then true else (bif true then (decide ((Vector.toList (workV a)) = (Vector.toList (workV b)))) else false)) else false) true then (true)
                    else (false))
                  else (false))
                else (true))
              else (bif eqb (decide ((Vector.toList (ofV a)) = (Vector.toList (ofV b)))) true then (bif eqb (bif true then (bif false then true else (bif true then (decide ((Vector.toList (workV a)) = (Vector.toList (workV b)))) else false)) else false) true then (true)
                  else (false))
                else (false))))
          else (false))
        else (false)))
    else (true)
theorem law04_TargetWork_q (a : UInt32) (b : UInt32) : law04_TargetWork a b = (bif eqb (!(decide ((ofE a) = (0 : Int)))) false then (bif bif false then true else (!(decide ((ofE b) = (0 : Int)))) then (true)
      else (bif eqb (decide ((ofE a) = (0 : Int))) true then (bif eqb (bif true then (decide ((ofE b) = (0 : Int))) else false) true then (bif eqb (subB (ofV a) (ofV b)) true then (bif eqb (bif true then (!(subB (workV a) (workV b))) else false) false then (bif eqb (subB (ofV b) (ofV a)) true then (bif eqb (bif false then true else (bif true then (!(subB (workV b) (workV a))) else false)) false then (bif eqb (decide ((Vector.toList (ofV a)) = (Vector.toList (ofV b)))) true then (bif eqb (bif true then (bif false then true else (bif true then (decide ((Vector.toList (workV a)) = (Vector.toList (workV b)))) else false)) else false) true then (true)
                      else (false))
                    else (false))
                  else (true))
                else (bif eqb (decide ((Vector.toList (ofV a)) = (Vector.toList (ofV b)))) true then (bif eqb (bif true then (bif false then true else (bif true then (decide ((Vector.toList (workV a)) = (Vector.toList (workV b)))) else false)) else false) true then (true)
                    else (false))
                  else (false)))
              else (true))
            else (bif eqb (subB (ofV b) (ofV a)) true then (bif eqb (bif false then true else (bif true then (!(subB (workV b) (workV a))) else false)) false then (bif eqb (decide ((Vector.toList (ofV a)) = (Vector.toList (ofV b)))) true then (bif eqb (bif true then (bif false then true else (bif true then (decide ((Vector.toList (workV a)) = (Vector.toList (workV b)))) else false)) else false) true then (true)
                    else (false))
                  else (false))
                else (true))
              else (bif eqb (decide ((Vector.toList (ofV a)) = (Vector.toList (ofV b)))) true then (bif eqb (bif true then (bif false then true else (bif true then (decide ((Vector.toList (workV a)) = (Vector.toList (workV b)))) else false)) else false) true then (true)
                  else (false))
                else (false))))
          else (false))
        else (false)))
    else (true)) := by kernel_rfl
theorem dvec (a b : Vector UInt64 4) : decide (Vector.toList a = Vector.toList b) = decide (uV a = uV b) := by rw [decide_eq_decide, vec_iff]
theorem work_val {b : UInt32} (h : okP b.toNat) : uV (workV b) = 115792089237316195423570985008687907853269984665640564039457584007913129639936 / (uV (ofV b) + 1) := by
  rw [workV_eq, if_pos h, ofV_val h, uV_uW, Nat.mod_eq_of_lt]
  have h0 : tgtN b.toNat ≠ 0 := h.2.2.1
  generalize tgtN b.toNat = T at *
  rw [Nat.div_lt_iff_lt_mul (by omega)]
  omega
theorem work_mono {T U : Nat} (h : T ≤ U) : 115792089237316195423570985008687907853269984665640564039457584007913129639936 / (U + 1) ≤ 115792089237316195423570985008687907853269984665640564039457584007913129639936 / (T + 1) :=
  Nat.div_le_div_left (by omega) (by omega)
theorem law04_TargetWork_spec (a b : UInt32) : law04_TargetWork a b = true := by
  rw [law04_TargetWork]
  by_cases ha : okP a.toNat
  · by_cases hb : okP b.toNat
    · rw [(ofE_iff _).2 ha, (ofE_iff _).2 hb, subB_eq, subB_eq, subB_eq, subB_eq, dvec, dvec, work_val ha, work_val hb]
      generalize uV (ofV a) = T
      generalize uV (ofV b) = U
      by_cases c1 : T < U
      · have hm := work_mono (T := T) (U := U) (by omega)
        rw [decide_eq_true c1, decide_eq_false (p := _ / (T + 1) < _ / (U + 1)) (by omega)]
        simp [eqb]
      · by_cases c2 : U < T
        · have hm := work_mono (T := U) (U := T) (by omega)
          rw [decide_eq_true c2, decide_eq_false c1, decide_eq_false (p := _ / (U + 1) < _ / (T + 1)) (by omega)]
          simp [eqb]
        · have e : T = U := by omega
          subst e
          rw [decide_eq_false c2]
          simp [eqb]
    · have e0 : ofE b ≠ 0 := fun e => hb ((ofE_iff b).1 e)
      rw [(ofE_iff _).2 ha, decide_eq_false e0]
      rfl
  · have e0 : ofE a ≠ 0 := fun e => ha ((ofE_iff a).1 e)
    rw [decide_eq_false e0]
    rfl

end
end Go.Proofs.Ytepcjobghbanmaa.M

namespace Go.Proofs.Ytepcjobghbanmaa.M
open Go
noncomputable section
set_option maxRecDepth 100000
set_option maxHeartbeats 0
noncomputable def law04_TargetWork_T : Tbl := [(40, [], target_Of_c), (46, [], law04_lives_c), (42, [], target_Work_c), (35, [], ref03_Less_c)]
noncomputable def law04_TargetWork_C : CfgW := mkC Try.prog noG law04_TargetWork_T 81 0 false
def law04_TargetWork_lv : Nat → List Nat := fun i => []
noncomputable abbrev law04_TargetWork_b : Code := Try.f12.body.getD .skip
noncomputable abbrev law04_TargetWork_r : List ResultVar := Try.f12.results.toList
def law04_TargetWork_hs : List Nat := []

def law04_TargetWork_enc (r : Bool) : CallOut := ⟨.pv (.sc .b r), [], true, []⟩
theorem law04_TargetWork_e (a : UInt32) (b : UInt32) (Q : CallOut → Prop) : evalFnP law04_TargetWork_C law04_TargetWork_lv law04_TargetWork_r law04_TargetWork_hs law04_TargetWork_b [.pv (.sc .u32 a), .pv (.sc .u32 b)] [] Q =
    (condP (eqb (!(decide ((ofE a) = (0 : Int)))) false) (condP (bif false then true else (!(decide ((ofE b) = (0 : Int))))) (Q (law04_TargetWork_enc true)) (condP (eqb (decide ((ofE a) = (0 : Int))) true) (condP (eqb (bif true then (decide ((ofE b) = (0 : Int))) else false) true) (condP (eqb (subB (ofV a) (ofV b)) true) (condP (eqb (bif true then (!(subB (workV a) (workV b))) else false) false) (condP (eqb (subB (ofV b) (ofV a)) true) (condP (eqb (bif false then true else (bif true then (!(subB (workV b) (workV a))) else false)) false) (condP (eqb (decide ((Vector.toList (ofV a)) = (Vector.toList (ofV b)))) true) (condP (eqb (bif true then (bif false then true else (bif true then (decide ((Vector.toList (workV a)) = (Vector.toList (workV b)))) else false)) else false) true) (Q (law04_TargetWork_enc true)) (Q (law04_TargetWork_enc false))) (Q (law04_TargetWork_enc false))) (Q (law04_TargetWork_enc true))) (condP (eqb (decide ((Vector.toList (ofV a)) = (Vector.toList (ofV b)))) true) (condP (eqb (bif true then (bif false then true else (bif true then (decide ((Vector.toList (workV a)) = (Vector.toList (workV b)))) else false)) else false) true) (Q (law04_TargetWork_enc true)) (Q (law04_TargetWork_enc false))) (Q (law04_TargetWork_enc false)))) (Q (law04_TargetWork_enc true))) (condP (eqb (subB (ofV b) (ofV a)) true) (condP (eqb (bif false then true else (bif true then (!(subB (workV b) (workV a))) else false)) false) (condP (eqb (decide ((Vector.toList (ofV a)) = (Vector.toList (ofV b)))) true) (condP (eqb (bif true then (bif false then true else (bif true then (decide ((Vector.toList (workV a)) = (Vector.toList (workV b)))) else false)) else false) true) (Q (law04_TargetWork_enc true)) (Q (law04_TargetWork_enc false))) (Q (law04_TargetWork_enc false))) (Q (law04_TargetWork_enc true))) (condP (eqb (decide ((Vector.toList (ofV a)) = (Vector.toList (ofV b)))) true) (condP (eqb (bif true then (bif false then true else (bif true then (decide ((Vector.toList (workV a)) = (Vector.toList (workV b)))) else false)) else false) true) (Q (law04_TargetWork_enc true)) (Q (law04_TargetWork_enc false))) (Q (law04_TargetWork_enc false))))) (Q (law04_TargetWork_enc false))) (Q (law04_TargetWork_enc false)))) (Q (law04_TargetWork_enc true))) := by kernel_rfl
theorem law04_TargetWork_w (a : UInt32) (b : UInt32) {Q : CallOut → Prop} (h : Q (law04_TargetWork_enc (law04_TargetWork a b))) : evalFnP law04_TargetWork_C law04_TargetWork_lv law04_TargetWork_r law04_TargetWork_hs law04_TargetWork_b [.pv (.sc .u32 a), .pv (.sc .u32 b)] [] Q :=
  Eq.mpr (law04_TargetWork_e a b Q) (have h := Eq.mp (congrArg (fun r => Q (law04_TargetWork_enc r)) (law04_TargetWork_q a b)) h; cond_ok2 (Q := fun r => Q (law04_TargetWork_enc r)) h (fun h => cond_ok2 (Q := fun r => Q (law04_TargetWork_enc r)) h (fun h => h) (fun h => cond_ok2 (Q := fun r => Q (law04_TargetWork_enc r)) h (fun h => cond_ok2 (Q := fun r => Q (law04_TargetWork_enc r)) h (fun h => cond_ok2 (Q := fun r => Q (law04_TargetWork_enc r)) h (fun h => cond_ok2 (Q := fun r => Q (law04_TargetWork_enc r)) h (fun h => cond_ok2 (Q := fun r => Q (law04_TargetWork_enc r)) h (fun h => cond_ok2 (Q := fun r => Q (law04_TargetWork_enc r)) h (fun h => cond_ok2 (Q := fun r => Q (law04_TargetWork_enc r)) h (fun h => cond_ok2 (Q := fun r => Q (law04_TargetWork_enc r)) h (fun h => h) (fun h => h)) (fun h => h)) (fun h => h)) (fun h => cond_ok2 (Q := fun r => Q (law04_TargetWork_enc r)) h (fun h => cond_ok2 (Q := fun r => Q (law04_TargetWork_enc r)) h (fun h => h) (fun h => h)) (fun h => h))) (fun h => h)) (fun h => cond_ok2 (Q := fun r => Q (law04_TargetWork_enc r)) h (fun h => cond_ok2 (Q := fun r => Q (law04_TargetWork_enc r)) h (fun h => cond_ok2 (Q := fun r => Q (law04_TargetWork_enc r)) h (fun h => cond_ok2 (Q := fun r => Q (law04_TargetWork_enc r)) h (fun h => h) (fun h => h)) (fun h => h)) (fun h => h)) (fun h => cond_ok2 (Q := fun r => Q (law04_TargetWork_enc r)) h (fun h => cond_ok2 (Q := fun r => Q (law04_TargetWork_enc r)) h (fun h => h) (fun h => h)) (fun h => h)))) (fun h => h)) (fun h => h))) (fun h => h))
def law04_TargetWork_c : Ans
  | [.pv (.sc .u32 a), .pv (.sc .u32 b)], [] => some (none, law04_TargetWork_enc (true))
  | _, _ => none
theorem law04_TargetWork_tok : TblOK Try.prog noG law04_TargetWork_T := .cons ⟨by kernel_rfl, target_Of_ok⟩ (.cons ⟨by kernel_rfl, law04_lives_ok⟩ (.cons ⟨by kernel_rfl, target_Work_ok⟩ (.cons ⟨by kernel_rfl, ref03_Less_ok⟩ (.nil))))
theorem law04_TargetWork_ok : FnOK Try.prog noG 12 (unW law04_TargetWork_c) := by
  refine FnOK.ofC (T := law04_TargetWork_T) (nt := 81) (np := 0) (nf := false) (hs := law04_TargetWork_hs) (fn := Try.f12) (body := law04_TargetWork_b) law04_TargetWork_tok (by kernel_rfl) (by kernel_rfl) (by kernel_rfl) (by kernel_rfl) (c := law04_TargetWork_c) (lv := law04_TargetWork_lv) ?_
  intro xs mem p out h hp
  unfold law04_TargetWork_c at h
  split at h
  · cases h
    exact law04_TargetWork_w _ _ (congrArg law04_TargetWork_enc (law04_TargetWork_spec _ _))
  · cases h
end
end Go.Proofs.Ytepcjobghbanmaa.M

namespace Go.Proofs.Ytepcjobghbanmaa
open Go Go.ChangeShapes Go.WideShapes Go.ChangeAt Go.RowKit
open Go.Proofs.Ytepcjobghbanmaa
theorem law04_TargetWork_own : ownKnob Try.prog.godebug = none := by kernel_rfl
theorem law04_TargetWork_law : ∀ ys : List M.PV, M.FitL [.sc .u32, .sc .u32] ys → ∃ p out, M.law04_TargetWork_c (ys.map .pv) [] = some (p, out) ∧ p.h ∧ out.val = .pv (.sc .b true) := by
  rintro ys ⟨_, _, rfl, ⟨x0, rfl, hx0⟩, ⟨_, _, rfl, ⟨x1, rfl, hx1⟩, rfl⟩⟩
  exact ⟨_, _, rfl, trivial, rfl⟩
set_option maxRecDepth 100000 in
theorem law04_TargetWork_lifted (os : Os) (started : os.Started) (H : Type) (enc : TypeId × Value → H) :
    ReturnsInHanded {} Try.checked os 12 .any (Rows.targetWorkSpec.pre6 enc Try.prog Try.f12 [] false)
      (Rows.targetWorkSpec.post enc Try.prog Try.f12 false true false false) := by
  refine returnsInHanded_of_change_sized (C := Try.checked) law04_TargetWork_own started (by kernel_rfl) (by kernel_rfl)
    (ChangeSpec.witness6 (enc := enc) (C := Try.checked) (os := os) false ⟨#[], #[.int .u32 0, .int .u32 0], []⟩ 8 (by kernel_rfl) (by kernel_rfl) (by kernel_rfl) (by kernel_rfl)) ?_
  intro W base args ds gs before hval hW _ hsz _
  exact M.law_contract (ss := [.sc .u32, .sc .u32]) (G := M.noG) (c := M.law04_TargetWork_c) (tb := 4) rfl (fun ds h => by
      match ds, h with
      | [d0, d1], _ => rfl) (by kernel_rfl) (by kernel_rfl) (by kernel_rfl) (by kernel_rfl) (by kernel_rfl) M.law04_TargetWork_ok law04_TargetWork_law hval hW hsz M.globOK_none
theorem targetWork_row : Rows.TargetWorkSaid :=
  OpenClaim.holds_of_wide 12 Try.f12 rfl rfl rfl rfl rfl rfl rfl ⟨rfl, rfl, rfl, rfl, rfl⟩ rfl rfl rfl rfl rfl (by kernel_rfl) (by kernel_rfl) (by kernel_rfl)
    (of_decide_eq_true (by kernel_rfl)) (by unfold Func.isWrapper; first | (rw [if_pos (by decide +kernel)]; kernel_rfl) | (rw [if_neg (by decide +kernel)]; exact ⟨rfl, rfl⟩))
    (fun os started H enc _ => law04_TargetWork_lifted os started H enc)
#print axioms targetWork_row
end Go.Proofs.Ytepcjobghbanmaa
